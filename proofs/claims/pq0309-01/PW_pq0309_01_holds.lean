import PyProof.Rows.All
import Wide.All
import OpenK.AllK
import Wide.FinOn
import KE.KPar
import KE.KRevSl
import PyProof.ExcBaseAll.Exception
import PyProof.ExcInit
import Lean
import PySem.Challenge.RW_pq0309_01
set_option Elab.async false
set_option bootstrap.genMatcherCode false
set_option genSizeOf false
set_option linter.unusedVariables false
set_option linter.unusedSimpArgs false
set_option linter.unusedSectionVars false
set_option linter.constructorNameAsVariable false
set_option maxRecDepth 1000000
set_option backward.match.sparseCases true
namespace Mine
open PySem PySem.W PyProof.Rows
noncomputable def keepL : List Nat := [0, 2, 4, 5, 6, 7, 8, 9, 10, 11, 12, 13, 14, 17, 19, 20, 21, 22, 23, 25, 26, 27, 28, 30, 31, 32, 34, 35, 36, 37, 38, 39, 40, 42, 43, 44, 45, 46, 47, 48, 49, 50, 51, 53, 54, 55, 56, 57, 58, 59, 60, 61, 62, 63, 64, 65, 66, 67, 69, 71, 73, 75, 77, 79, 81, 82, 83, 84, 85, 86]
noncomputable abbrev pw : Program := PySem.Challenge.pw_pq0309_01
noncomputable def vq : Program := view pw keepL
noncomputable def lv : List (Str × WData) := [(Str.ofString "LONGEST", WData.int 4194304)]
noncomputable def loose : List Str := [Str.ofString "LONGEST", Str.ofString "insert_at", Str.ofString "insert", Str.ofString "Buffer"]
noncomputable def dLaw : DefRec := match defOf vq (Str.ofString "law") with
  | some (d, _) => d
  | none => { name := default, params := default, body := [], scope := default, pos := default }
theorem okq : (chainsOk vq && opensWell PySem.Challenge.rw_pq0309_01.row.prog && (frees PySem.Challenge.rw_pq0309_01.row.toRowW && PySem.Challenge.rw_pq0309_01.row.within.isEmpty)) = true := by kernel_rfl
noncomputable abbrev denQ : Code → Sem Fin := PySem.W.Fast.tw11892475500146522536 PySem.W.Fast.tw14364793385576792824
theorem denQ_eq : denote treeTable = denQ := by
  show _ = PySem.W.Fast.tw11892475500146522536 PySem.W.Fast.tw14364793385576792824
  rw [← PySem.W.Fast.te11892475500146522536, ← PySem.W.Fast.te14364793385576792824]
noncomputable def topQ (w : World) (n₀ : Nat) (ann : Option Value) : Nat → SharedT → Thread → Option SharedT
  | 0, _, _ => none
  | n + 1, s, t => match through t with
    | true => some s
    | false => match PySem.W.Fast.tw6613529449190102663 n₀ ann t with
      | false => none
      | true => match PySem.W.Fast.tw10156331382660048174 denQ pw w s t with
        | some (s', t') => topQ w n₀ ann n s' t'
        | none => none
theorem topQ_spec {w : World} {n₀ : Nat} {ann : Option Value} : ∀ {n : Nat} {s s' : SharedT} {t : Thread}, topQ w n₀ ann n s t = some s' → topRun treeTable pw w n₀ ann n s.abs t = some s'.abs
  | 0, _, _, _, h => by cases h
  | n + 1, s, s', t, h => by
    unfold topQ at h
    rw [← PySem.W.Fast.te6613529449190102663, ← PySem.W.Fast.te10156331382660048174, ← denQ_eq] at h
    unfold topRun
    cases ht : through t with
    | true => rw [ht] at h; cases h; rfl
    | false =>
      rw [ht] at h
      cases hk : stepOk n₀ ann t with
      | false => rw [hk] at h; cases h
      | true =>
        rw [hk] at h
        cases hs : stepT (denote treeTable) pw w s t with
        | none => rw [hs] at h; cases h
        | some r => obtain ⟨s₂, t₂⟩ := r; rw [hs] at h; rw [stepT_spec hs]; exact topQ_spec h
noncomputable def toBT : List Obj → BT → Nat → Option (BT × Nat)
  | [], t, n => some (t, n)
  | o :: l, t, n => match ((t.ins n o).get n).isSome with
    | true => toBT l (t.ins n o) (n + 1)
    | false => none
theorem toBT_spec {life : Life} : ∀ {l : List Obj} {t t' : BT} {n n' : Nat}, toBT l t n = some (t', n') → absHeap t' n' life = ⟨(absHeap t n life).objs ++ l.toArray, life⟩
  | [], t, t', n, n', h => by
    cases h
    simp [absHeap]
  | o :: l, t, t', n, n', h => by
    unfold toBT at h
    cases hi : ((t.ins n o).get n).isSome with
    | false => rw [hi] at h; cases h
    | true =>
      rw [hi] at h
      have e := toBT_spec (life := life) h
      rw [absHeap_ins hi] at e
      rw [e]
      simp [Heap.push]
noncomputable def toT (s : Shared) : Option SharedT := (toBT s.heap.objs.toList .nil 0).map fun x => ⟨x.1, x.2, s.heap.life, s.gens, s.drawn, s.toks, s.os⟩
theorem toT_spec {s : Shared} {x : SharedT} (h : toT s = some x) : x.abs = s := by
  obtain ⟨⟨t, n⟩, h1, rfl⟩ := Option.map_eq_some_iff.mp h
  have e := toBT_spec (life := s.heap.life) h1
  obtain ⟨⟨objs, life⟩, gens, drawn, toks, os⟩ := s
  simp only [SharedT.abs]
  rw [e]
  simp [absHeap, BT.list]
noncomputable def N0 : Nat := 11660
noncomputable def runQ (w : World) : Option (Shared × SharedT) :=
  (((PySem.W.Fast.tw10274390034422433532 PySem.W.Fast.tw14364793385576792824 (opening pw) w N0 (PySem.W.Fast.tw1435165496053646825 (opening pw)).1 (PySem.W.Fast.tw1435165496053646825 (opening pw)).2).bind (PySem.W.Fast.tw14289696077712309145 pw)).bind fun s₀ =>
    match s₀.heap.isNs mainGlobals && s₀.gens.size == 0 with
    | true => (toT s₀).bind fun x => (topQ w s₀.heap.objs.size (PySem.W.Fast.tw8920871248978507458 s₀.heap mainGlobals "__annotations__") N0 x (topStub pw)).bind fun y => some (s₀, y)
    | false => none)
noncomputable def afterB (s₀ : Shared) (y : Shared) : Bool := staticsOk (importedModules pw.main.body) s₀.heap y.heap && namesBound pw y.heap && gensDone y && laidKept s₀.heap y.heap
theorem runQ_spec {w : World} {s₀ : Shared} {y : SharedT} (h : runQ w = some (s₀, y)) (h2 : afterB s₀ y.abs = true) : openEnds treeTable pw w N0 = some y.abs := by
  unfold runQ at h
  rw [← PySem.W.Fast.te10274390034422433532, ← PySem.W.Fast.te14364793385576792824, ← PySem.W.Fast.te1435165496053646825, ← PySem.W.Fast.te14289696077712309145, ← PySem.W.Fast.te8920871248978507458] at h
  unfold openEnds fencedOpening
  obtain ⟨s₁, h0, h⟩ := Option.bind_eq_some_iff.mp h
  rw [h0]
  show topFrom treeTable pw w N0 s₁ = some y.abs
  unfold topFrom
  cases h1 : s₁.heap.isNs mainGlobals && s₁.gens.size == 0 with
  | false => rw [h1] at h; cases h
  | true =>
    rw [h1] at h
    obtain ⟨x, hx, h⟩ := Option.bind_eq_some_iff.mp h
    obtain ⟨y', hy, h⟩ := Option.bind_eq_some_iff.mp h
    cases h
    have e := topQ_spec hy
    rw [toT_spec hx] at e
    show (topRun treeTable pw w s₀.heap.objs.size (s₀.heap.nsMap mainGlobals "__annotations__") N0 s₀ (topStub pw)).bind _ = some y.abs
    rw [e]
    show (match afterB s₀ y.abs with | true => some y.abs | false => none) = some y.abs
    rw [h2]
noncomputable def getT (y : SharedT) (a : Addr) : Option Obj := match Nat.blt a y.n with
  | true => match y.tree.get a with
    | some o => alive o
    | none => none
  | false => none
theorem getT_spec {y : SharedT} {a : Addr} {o : Obj} (h : getT y a = some o) : y.abs.heap.get? a = some o := by
  unfold getT at h
  split at h
  · rename_i hb
    have hb : a < y.n := by
      have := Nat.blt_eq.mp hb
      exact this
    split at h
    · rename_i x hx
      exact (abs_get (life := y.life) hb hx).trans h
    · cases h
  · cases h
noncomputable def fragT (as : List Addr) (y : SharedT) : Frag := as.filterMap fun a => (getT y a).map fun o => (a, o)
theorem fragT_in (y : SharedT) : ∀ as, (fragT as y).In y.abs.heap
  | [] => fun a o e => by cases e
  | b :: as => by
    intro a o e
    unfold fragT at e
    simp only [List.filterMap_cons] at e
    cases hb : getT y b with
    | none =>
      rw [hb] at e
      exact fragT_in y as a o e
    | some x =>
      rw [hb] at e
      simp only [Option.map_some, List.lookup_cons] at e
      cases q : a == b with
      | true =>
        rw [q] at e
        cases e
        rw [beq_iff_eq.mp q]; exact getT_spec hb
      | false =>
        rw [q] at e
        exact fragT_in y as a o e
noncomputable def asL : List Addr := (List.range 930).filter (Nat.testBit 7334076179132427820923024575533038199012951181130387613923853723603414866695567481097201600800983086477244989463327902833942903133857360474046435650270395398965003601502136037608249231271223245806525067191926004864938013346474876669628105168609306304986857805126850303016587132940)
end Mine
set_option backward.match.sparseCases true
namespace Mine
open PySem PySem.W PyProof.Rows
noncomputable def looseL : List Str := loose ++ [Str.ofString "BOUNDARY"]
theorem loose_t : PySem.W.Fast.tw821141287760084731 vq loose = looseL := by kernel_rfl
noncomputable def osF (L : List Str) (s : Shared) :=
  (PySem.W.Fast.tw5160383126252970620 (PySem.W.R.mapR (fun x => x.name) (PySem.W.Fast.tw3399658132070893891 vq)) (PySem.W.Fast.tw5991557255702980513 vq) [] { s with gens := #[] },
    s.heap.bltView,
    PySem.W.Fast.tw10880121769531294198 s.heap L (PySem.W.R.mapR (fun x => x.name) (PySem.W.Fast.tw3399658132070893891 vq)) (PySem.W.R.mapR (fun x => x.fst) (PySem.W.Fast.tw7409074990110511671 vq)) (PySem.W.R.mapR (fun x => x.name) (PySem.W.Fast.tw13664370479719496447 vq L)) &&
      PySem.W.Fast.tw14722251495701143533 s.heap (importedModules pw.main.body) && s.heap.isNs mainGlobals && s.heap.isNs builtinsNs && PySem.W.Fast.tw10994771534591457954 vq s.heap && (xlAt vq lv s && recOk [] s) && (if true = true then s.gens.size == 0 else !leftWithCleanup s.gens),
    PySem.W.Fast.tw479339242167458305 vq s, PySem.W.Fast.tw16090120013241838585 vq (PySem.W.Fast.tw3247288618530077131 vq) s, PySem.W.Fast.tw2386780881361962483 vq L s, PySem.W.Fast.tw11698064438423848299 vq loose s, PySem.W.Fast.tw7317090234206586261 vq s, PySem.W.Fast.tw7369524293546568484 vq loose s)
theorem osF_eq (s : Shared) : openSeen vq loose (importedModules pw.main.body) (fun s => xlAt vq lv s && recOk [] s) true s = osF looseL s := by
  rw [PySem.W.Fast.te4187177175401517315, ← loose_t]
  rfl
theorem loose_eq : looseW vq loose = looseL := by
  rw [PySem.W.Fast.te821141287760084731]
  exact loose_t
noncomputable def osOf (y : SharedT) := osF looseL y.abs
end Mine
set_option backward.match.sparseCases true
namespace Mine
open PySem PySem.W PyProof.Rows
set_option maxHeartbeats 4000000 in
theorem said1 : PySem.Challenge.rw_pq0309_01.wellSaid = true := (congrFun PySem.W.Fast.te9446332074065402090 _).trans (by
  delta PySem.W.Fast.tw9446332074065402090
  repeat' first | with_reducible refine look_both ?_ ?_ | delta PySem.W.Fast.tw17960256430627541270 | delta PySem.W.Fast.tw2436336058641802641 | delta PySem.W.Fast.tw12908688711261696721
  all_goals decide +kernel)
theorem h5 : (defOf vq PySem.Challenge.rw_pq0309_01.row.name, PySem.Challenge.rw_pq0309_01.row.prog.theDef PySem.Challenge.rw_pq0309_01.row.name, kwWritten? dLaw.params.kwonlyargs dLaw.params.kw_defaults, dLaw.scope.names.lookup (Str.ofString "script"), dLaw.scope.names.all fun x => x.2 != .cell) = (some (dLaw, []), some (dLaw.params, dLaw.body, dLaw.scope), some [], some .local, true) := by kernel_rfl
theorem hdef0 : defOf vq PySem.Challenge.rw_pq0309_01.row.name = some (dLaw, []) := (Prod.mk.inj h5).1
theorem hp0 : PySem.Challenge.rw_pq0309_01.row.prog.theDef PySem.Challenge.rw_pq0309_01.row.name = some (dLaw.params, dLaw.body, dLaw.scope) := (Prod.mk.inj (Prod.mk.inj h5).2).1
theorem hk0 : kwWritten? dLaw.params.kwonlyargs dLaw.params.kw_defaults = some [] := (Prod.mk.inj (Prod.mk.inj (Prod.mk.inj h5).2).2).1
theorem hloc0 : dLaw.scope.names.lookup (Str.ofString "script") = some .local := (Prod.mk.inj (Prod.mk.inj (Prod.mk.inj (Prod.mk.inj h5).2).2).2).1
theorem hnoc0 : (dLaw.scope.names.all fun x => x.2 != .cell) = true := (Prod.mk.inj (Prod.mk.inj (Prod.mk.inj (Prod.mk.inj h5).2).2).2).2
theorem hwr0 : (!PySem.Challenge.rw_pq0309_01.row.writes || PySem.Challenge.rw_pq0309_01.row.records.isEmpty) = true := by rfl
theorem bare0 : PySem.Challenge.rw_pq0309_01.row.prog.bare := ⟨rfl, rfl, rfl, rfl, rfl, by decide +kernel⟩
theorem prom0 : PySem.Challenge.rw_pq0309_01.row.toRowW.promised := ⟨[.list []], by decide +kernel, by decide +kernel⟩
theorem hn1 : namesOk vq (looseW vq loose) (namesW vq loose) = true := by
  rw [loose_eq, PySem.W.Fast.te17448422675489707002]
  kernel_rfl
theorem hn2 : importsNone vq = true := by
  rw [PySem.W.Fast.te2458874890965802552]
  kernel_rfl
end Mine
set_option backward.match.sparseCases true
namespace Mine
open PySem PySem.W PyProof.Rows
theorem rc1 : (fun w : World => (runQ w).map fun x => ((osOf x.2).1, (osOf x.2).2.1)) = fun _ => some (expectedOf vq, bltViewBooted) := by kernel_rfl
end Mine
set_option backward.match.sparseCases true
namespace Mine
open PySem PySem.W PyProof.Rows
theorem rc3 : (fun w : World => (runQ w).map fun x => ((osOf x.2).2.2.1, (osOf x.2).2.2.2.1)) = fun _ => some (true, true) := by kernel_rfl
end Mine
set_option backward.match.sparseCases true
namespace Mine
open PySem PySem.W PyProof.Rows
theorem rd1 : (fun w : World => (runQ w).map fun x => ((osOf x.2).2.2.2.2.2.1, (osOf x.2).2.2.2.2.2.2.2.2)) = fun _ => some (plainGoodE vq looseL, clsGoodW vq loose) := by kernel_rfl
end Mine
set_option backward.match.sparseCases true
namespace Mine
open PySem PySem.W PyProof.Rows
theorem rd2 : (fun w : World => (runQ w).map fun x => ((osOf x.2).2.2.2.2.1, (osOf x.2).2.2.2.2.2.2.2.1)) = fun _ => some (pinGoodD (drecsOf vq), wideGood vq) := by kernel_rfl
end Mine
set_option maxRecDepth 100000
set_option backward.match.sparseCases false
namespace Mine
theorem bc {G : Prop} (h : ¬ G → False) : G := Classical.byContradiction h
inductive Tag | deck | bigs | buf | text | cells | ul | rows | und | eqd | bes | strs | fnd | met | tmp
  deriving DecidableEq
inductive Cls | gap | markers | buffer | ulist | recording | undoing | beside | piece
  deriving DecidableEq
inductive Word | insert | delete | property | marker | point | unmodified | boundary | same | new | gone | a | userError | noFurther | noFurtherRegion | noInfo | noUndo | redo | undo | undoInRegion | bufRead | err | maxSize | outOfRange | outside
  deriving DecidableEq
inductive V
  | none | bool (b : Bool) | int (i : Int) | str (w : Word) | ref (t : Tag) (a : Nat)
  | tup (xs : List V) | lst (xs : List V) | inst (c : Cls) (xs : List V) | rng (a b c : Int) | edict
inductive O
  | inst (c : Cls) (xs : List V)
  | list (xs : List V)
  | dict (kvs : List (Int × V))
abbrev St := Tag → Option (Nat × O)
noncomputable def upd (H : St) (t : Tag) (x : Option (Nat × O)) : St := fun t' => if t' = t then x else H t'
theorem upd_same (H : St) (t : Tag) (x) : upd H t x t = x := by simp [upd]
theorem upd_ne (H : St) {t t' : Tag} (x) (h : t' ≠ t) : upd H t x t' = H t' := by simp [upd, h]
theorem upd_upd (H : St) (t : Tag) (x y) : upd (upd H t x) t y = upd H t y := by
  funext t'; by_cases h : t' = t <;> simp [upd, h]
abbrev Loc := List (Option V)
noncomputable def Loc.put (r : Loc) (i : Nat) (v : V) : Loc := List.set r i (some v)
set_option genInjectivity false
inductive Op1 | neg | not_ | len | abs | fld (c : Cls) (i : Nat) | isNone | notNone | sum | sorted | range
inductive Op2 | add | sub | mul | fdiv | mod | lt | le | gt | ge | eq | ne | in_ | nin | idx | min | max | index
inductive Op3 | get | range
inductive Glob | boundary | inRegion | longest
structure Fn where
  i : Fin 78
  deriving DecidableEq
@[reducible] noncomputable def Fn.needWritable : Fn := ⟨0, Nat.le_of_ble_eq_true rfl⟩
@[reducible] noncomputable def Fn.needRoom : Fn := ⟨1, Nat.le_of_ble_eq_true rfl⟩
@[reducible] noncomputable def Fn.reached : Fn := ⟨2, Nat.le_of_ble_eq_true rfl⟩
@[reducible] noncomputable def Fn.tellAhead : Fn := ⟨3, Nat.le_of_ble_eq_true rfl⟩
@[reducible] noncomputable def Fn.tellBehind : Fn := ⟨4, Nat.le_of_ble_eq_true rfl⟩
@[reducible] noncomputable def Fn.textOut : Fn := ⟨5, Nat.le_of_ble_eq_true rfl⟩
@[reducible] noncomputable def Fn.textIn : Fn := ⟨6, Nat.le_of_ble_eq_true rfl⟩
@[reducible] noncomputable def Fn.hungOut : Fn := ⟨7, Nat.le_of_ble_eq_true rfl⟩
@[reducible] noncomputable def Fn.hungIn : Fn := ⟨8, Nat.le_of_ble_eq_true rfl⟩
@[reducible] noncomputable def Fn.putIn : Fn := ⟨9, Nat.le_of_ble_eq_true rfl⟩
@[reducible] noncomputable def Fn.insertAt : Fn := ⟨10, Nat.le_of_ble_eq_true rfl⟩
@[reducible] noncomputable def Fn.insert : Fn := ⟨11, Nat.le_of_ble_eq_true rfl⟩
@[reducible] noncomputable def Fn.delete : Fn := ⟨12, Nat.le_of_ble_eq_true rfl⟩
@[reducible] noncomputable def Fn.insertPiece : Fn := ⟨13, Nat.le_of_ble_eq_true rfl⟩
@[reducible] noncomputable def Fn.needVisible : Fn := ⟨14, Nat.le_of_ble_eq_true rfl⟩
@[reducible] noncomputable def Fn.markersAhead : Fn := ⟨15, Nat.le_of_ble_eq_true rfl⟩
@[reducible] noncomputable def Fn.undoInsert : Fn := ⟨16, Nat.le_of_ble_eq_true rfl⟩
@[reducible] noncomputable def Fn.undoDelete : Fn := ⟨17, Nat.le_of_ble_eq_true rfl⟩
@[reducible] noncomputable def Fn.undoRow : Fn := ⟨18, Nat.le_of_ble_eq_true rfl⟩
@[reducible] noncomputable def Fn.aboveBoundaries : Fn := ⟨19, Nat.le_of_ble_eq_true rfl⟩
@[reducible] noncomputable def Fn.undoGroup : Fn := ⟨20, Nat.le_of_ble_eq_true rfl⟩
@[reducible] noncomputable def Fn.splitThere : Fn := ⟨21, Nat.le_of_ble_eq_true rfl⟩
@[reducible] noncomputable def Fn.hereAt : Fn := ⟨22, Nat.le_of_ble_eq_true rfl⟩
@[reducible] noncomputable def Fn.rangeThere : Fn := ⟨23, Nat.le_of_ble_eq_true rfl⟩
@[reducible] noncomputable def Fn.isUntouched : Fn := ⟨24, Nat.le_of_ble_eq_true rfl⟩
@[reducible] noncomputable def Fn.undoneInsert : Fn := ⟨25, Nat.le_of_ble_eq_true rfl⟩
@[reducible] noncomputable def Fn.undoneDelete : Fn := ⟨26, Nat.le_of_ble_eq_true rfl⟩
@[reducible] noncomputable def Fn.undoneRow : Fn := ⟨27, Nat.le_of_ble_eq_true rfl⟩
@[reducible] noncomputable def Fn.rowsInRegion : Fn := ⟨28, Nat.le_of_ble_eq_true rfl⟩
@[reducible] noncomputable def Fn.trimmedCount : Fn := ⟨29, Nat.le_of_ble_eq_true rfl⟩
@[reducible] noncomputable def Fn.lastWasUndo : Fn := ⟨30, Nat.le_of_ble_eq_true rfl⟩
@[reducible] noncomputable def Fn.dropPoints : Fn := ⟨31, Nat.le_of_ble_eq_true rfl⟩
@[reducible] noncomputable def Fn.elderRows : Fn := ⟨32, Nat.le_of_ble_eq_true rfl⟩
@[reducible] noncomputable def Fn.isInRow : Fn := ⟨33, Nat.le_of_ble_eq_true rfl⟩
@[reducible] noncomputable def Fn.beginUndo : Fn := ⟨34, Nat.le_of_ble_eq_true rfl⟩
@[reducible] noncomputable def Fn.endUndo : Fn := ⟨35, Nat.le_of_ble_eq_true rfl⟩
@[reducible] noncomputable def Fn.goOnBehindRedo : Fn := ⟨36, Nat.le_of_ble_eq_true rfl⟩
@[reducible] noncomputable def Fn.undoRedo : Fn := ⟨37, Nat.le_of_ble_eq_true rfl⟩
@[reducible] noncomputable def Fn.regionMore : Fn := ⟨38, Nat.le_of_ble_eq_true rfl⟩
@[reducible] noncomputable def Fn.undoInRegion : Fn := ⟨39, Nat.le_of_ble_eq_true rfl⟩
@[reducible] noncomputable def Fn.lawDeck : Fn := ⟨40, Nat.le_of_ble_eq_true rfl⟩
@[reducible] noncomputable def Fn.lawDraw : Fn := ⟨41, Nat.le_of_ble_eq_true rfl⟩
@[reducible] noncomputable def Fn.lawParts : Fn := ⟨42, Nat.le_of_ble_eq_true rfl⟩
@[reducible] noncomputable def Fn.lawChanged : Fn := ⟨43, Nat.le_of_ble_eq_true rfl⟩
@[reducible] noncomputable def Fn.lawUndone : Fn := ⟨44, Nat.le_of_ble_eq_true rfl⟩
@[reducible] noncomputable def Fn.law : Fn := ⟨45, Nat.le_of_ble_eq_true rfl⟩
@[reducible] noncomputable def Fn.ulInit : Fn := ⟨46, Nat.le_of_ble_eq_true rfl⟩
@[reducible] noncomputable def Fn.ulCount : Fn := ⟨47, Nat.le_of_ble_eq_true rfl⟩
@[reducible] noncomputable def Fn.ulIsAtBoundary : Fn := ⟨48, Nat.le_of_ble_eq_true rfl⟩
@[reducible] noncomputable def Fn.ulBoundary : Fn := ⟨49, Nat.le_of_ble_eq_true rfl⟩
@[reducible] noncomputable def Fn.ulNoteState : Fn := ⟨50, Nat.le_of_ble_eq_true rfl⟩
@[reducible] noncomputable def Fn.ulNoteBegin : Fn := ⟨51, Nat.le_of_ble_eq_true rfl⟩
@[reducible] noncomputable def Fn.ulNoteInsert : Fn := ⟨52, Nat.le_of_ble_eq_true rfl⟩
@[reducible] noncomputable def Fn.ulNoteDelete : Fn := ⟨53, Nat.le_of_ble_eq_true rfl⟩
@[reducible] noncomputable def Fn.undInit : Fn := ⟨54, Nat.le_of_ble_eq_true rfl⟩
@[reducible] noncomputable def Fn.besInit : Fn := ⟨55, Nat.le_of_ble_eq_true rfl⟩
@[reducible] noncomputable def Fn.gapInit : Fn := ⟨56, Nat.le_of_ble_eq_true rfl⟩
@[reducible] noncomputable def Fn.gapSize : Fn := ⟨57, Nat.le_of_ble_eq_true rfl⟩
@[reducible] noncomputable def Fn.gapCodes : Fn := ⟨58, Nat.le_of_ble_eq_true rfl⟩
@[reducible] noncomputable def Fn.gapMoveGap : Fn := ⟨59, Nat.le_of_ble_eq_true rfl⟩
@[reducible] noncomputable def Fn.gapWidenGap : Fn := ⟨60, Nat.le_of_ble_eq_true rfl⟩
@[reducible] noncomputable def Fn.gapInsert : Fn := ⟨61, Nat.le_of_ble_eq_true rfl⟩
@[reducible] noncomputable def Fn.gapDelete : Fn := ⟨62, Nat.le_of_ble_eq_true rfl⟩
@[reducible] noncomputable def Fn.mkInit : Fn := ⟨63, Nat.le_of_ble_eq_true rfl⟩
@[reducible] noncomputable def Fn.mkNumbers : Fn := ⟨64, Nat.le_of_ble_eq_true rfl⟩
@[reducible] noncomputable def Fn.mkWithin : Fn := ⟨65, Nat.le_of_ble_eq_true rfl⟩
@[reducible] noncomputable def Fn.mkInserted : Fn := ⟨66, Nat.le_of_ble_eq_true rfl⟩
@[reducible] noncomputable def Fn.mkDeleted : Fn := ⟨67, Nat.le_of_ble_eq_true rfl⟩
@[reducible] noncomputable def Fn.bufInit : Fn := ⟨68, Nat.le_of_ble_eq_true rfl⟩
@[reducible] noncomputable def Fn.bufSize : Fn := ⟨69, Nat.le_of_ble_eq_true rfl⟩
@[reducible] noncomputable def Fn.bufCodes : Fn := ⟨70, Nat.le_of_ble_eq_true rfl⟩
@[reducible] noncomputable def Fn.bufGoto : Fn := ⟨71, Nat.le_of_ble_eq_true rfl⟩
@[reducible] noncomputable def Fn.bufIsModified : Fn := ⟨72, Nat.le_of_ble_eq_true rfl⟩
@[reducible] noncomputable def Fn.bufTouch : Fn := ⟨73, Nat.le_of_ble_eq_true rfl⟩
@[reducible] noncomputable def Fn.pieceInit : Fn := ⟨74, Nat.le_of_ble_eq_true rfl⟩
@[reducible] noncomputable def Fn.recInit : Fn := ⟨75, Nat.le_of_ble_eq_true rfl⟩
@[reducible] noncomputable def Fn.recTextComes : Fn := ⟨76, Nat.le_of_ble_eq_true rfl⟩
@[reducible] noncomputable def Fn.recTextGoes : Fn := ⟨77, Nat.le_of_ble_eq_true rfl⟩
mutual
inductive E
  | v (i : Nat) | none | bool (b : Bool) | int (i : Int) | word (w : Word) | glob (g : Glob) | edict | bad
  | op1 (o : Op1) (a : E) | op2 (o : Op2) (a b : E) | op3 (o : Op3) (a b c : E)
  | ite (t a b : E) | and_ (a b : E) | or_ (a b : E) | chain (a b c : E)
  | call (f : Fn) (args : EL) | meth (f : Fn) (o : E) (args : EL)
  | new (c : Cls) (t : Tag) (args : EL) | newF (c : Cls) (args : EL)
  | tup (args : EL)
  | frz (l : L) | thw (t : Tag) (l : L) | thwD (t : Tag)
inductive EL
  | nil | cons (e : E) (r : EL)
inductive L
  | disp (args : EL) | cat (a b : E) | rep (a b : E) | slc (a lo hi : E) | frm (a lo : E) | upt (a hi : E) | rev (a : E) | copy (a : E)
  | comp (elt cond : E) (n : Nat) (src : E)
end
mutual
inductive S
  | asg (i : Nat) (e : E) | asgT (is : List Nat) (e : E) | asgW (is : List Nat) (es : EL)
  | setF (o : E) (c : Cls) (i : Nat) (e : E) | setI (o k e : E) | setD (o k e : E) | setS (o lo hi e : E)
  | ex (e : E) | app (o e : E) | pop0 (o : E) | dpop (o k : E)
  | ret (e : E) | ite (t : E) (a b : SL) | whl (t : E) (b : SL) | for_ (is : List Nat) (it : E) (b : SL)
  | try_ (e : E) (i : Nat) | raise_ (es : EL) | bad
inductive SL
  | nil | cons (s : S) (r : SL)
end
noncomputable def lim : Nat := 16777216
noncomputable def itemsV (H : St) : V → Option (List V)
  | .lst xs => some xs
  | .ref t a => match H t with
    | some (a', .list xs) => if a' = a then some xs else .none
    | _ => .none
  | _ => .none
noncomputable def seqV (H : St) : V → Option (List V)
  | .tup xs => some xs
  | v => itemsV H v
noncomputable def fldsV (H : St) (c : Cls) : V → Option (List V)
  | .inst c' xs => if c' = c then some xs else .none
  | .ref t a => match H t with
    | some (a', .inst c' xs) => if a' = a ∧ c' = c then some xs else .none
    | _ => .none
  | _ => .none
noncomputable def dGet (kvs : List (Int × V)) (k : Int) : Option V := (kvs.find? fun kv => kv.1 = k).map (·.2)
noncomputable def dPut (kvs : List (Int × V)) (k : Int) (v : V) : List (Int × V) :=
  if kvs.any (fun kv => kv.1 = k) then kvs.map (fun kv => if kv.1 = k then (kv.1, v) else kv) else kvs ++ [(k, v)]
noncomputable def dDel (kvs : List (Int × V)) (k : Int) : List (Int × V) := kvs.filter fun kv => decide (kv.1 ≠ k)
noncomputable def dictV (H : St) : V → Option (List (Int × V))
  | .ref t a => match H t with
    | some (a', .dict m) => if a' = a then some m else .none
    | _ => .none
  | _ => .none
noncomputable def getAt (xs : List V) (k : Int) : Option V :=
  if 0 ≤ k then xs[k.toNat]? else if 0 ≤ k + xs.length then xs[(k + xs.length).toNat]? else .none
noncomputable def clip (n : Nat) (k : Int) : Nat := if k < 0 then (k + n).toNat else Nat.min k.toNat n
noncomputable def pySlice (xs : List V) (lo hi : Int) : List V := (xs.take (clip xs.length hi)).drop (clip xs.length lo)
noncomputable def setSlice (xs : List V) (lo hi : Int) (ys : List V) : List V :=
  xs.take (clip xs.length lo) ++ ys ++ xs.drop (Nat.max (clip xs.length lo) (clip xs.length hi))
noncomputable def eqVs (f : V → V → Option Bool) (whole : Bool) : List V → List V → Option Bool
  | [], [] => some whole
  | x :: xs, y :: ys => match f x y with
    | some b => eqVs f (whole && b) xs ys
    | .none => .none
  | _, _ => some false
theorem map_val {α : Type} {P : α → Prop} {o : Option {a : α // P a}} {t : α} (h : o.map (·.1) = some t) : P t := by
  cases o with
  | none => cases h
  | some a => cases h; exact a.2
noncomputable def one {α : Type} : (l : List α) → Option {a : α // l = [a]}
  | [a] => some ⟨a, rfl⟩
  | _ => none
noncomputable def intV' : (x : V) → Option {i : Int // x = .int i}
  | .int i => some ⟨i, rfl⟩
  | _ => .none
noncomputable def strV' : (x : V) → Option {i : Word // x = .str i}
  | .str i => some ⟨i, rfl⟩
  | _ => .none
noncomputable def boolV' : (x : V) → Option {i : Bool // x = .bool i}
  | .bool i => some ⟨i, rfl⟩
  | _ => .none
noncomputable def tupV' : (x : V) → Option {i : List V // x = .tup i}
  | .tup i => some ⟨i, rfl⟩
  | _ => .none
noncomputable def lstV' : (x : V) → Option {i : List V // x = .lst i}
  | .lst i => some ⟨i, rfl⟩
  | _ => .none
noncomputable def maybeV' : (x : V) → Option {i : Option Int // x = i.elim .none .int}
  | .none => some ⟨.none, rfl⟩
  | .int i => some ⟨some i, rfl⟩
  | _ => .none
noncomputable def intV (x : V) : Option Int := (intV' x).map (·.1)
noncomputable def strV (x : V) : Option Word := (strV' x).map (·.1)
noncomputable def boolV (x : V) : Option Bool := (boolV' x).map (·.1)
noncomputable def tupV (x : V) : Option (List V) := (tupV' x).map (·.1)
noncomputable def lstV (x : V) : Option (List V) := (lstV' x).map (·.1)
noncomputable def maybeV (x : V) : Option (Option Int) := (maybeV' x).map (·.1)
theorem intV_eq {x : V} {i : Int} (h : intV x = some i) : x = .int i := map_val (P := fun i => x = .int i) h
theorem strV_eq {x : V} {i : Word} (h : strV x = some i) : x = .str i := map_val (P := fun i => x = .str i) h
theorem boolV_eq {x : V} {i : Bool} (h : boolV x = some i) : x = .bool i := map_val (P := fun i => x = .bool i) h
theorem tupV_eq {x : V} {i : List V} (h : tupV x = some i) : x = .tup i := map_val (P := fun i => x = .tup i) h
theorem lstV_eq {x : V} {i : List V} (h : lstV x = some i) : x = .lst i := map_val (P := fun i => x = .lst i) h
theorem maybeV_eq {x : V} {i : Option Int} (h : maybeV x = some i) : x = i.elim .none .int := map_val (P := fun i : Option Int => x = i.elim .none .int) h
noncomputable def eqV : Nat → V → V → Option Bool
  | 0, _, _ => .none
  | n + 1, x, y => match x with
    | .none => (maybeV y).map fun b => b.isNone
    | .int a => (maybeV y).map fun b => match b with | some b => decide (a = b) | .none => false
    | .bool a => (boolV y).map fun b => a == b
    | .str a => (strV y).map fun b => decide (a = b)
    | .tup xs => (tupV y).bind fun ys => eqVs (eqV n) true xs ys
    | .lst xs => (lstV y).bind fun ys => if xs.length = ys.length then eqVs (eqV n) true xs ys else some false
    | _ => .none
noncomputable def eqH (H : St) (x y : V) : Option Bool := match x with
  | .ref _ _ => match itemsV H x with
    | some xs => eqV 8 (.lst xs) y
    | .none => .none
  | _ => eqV 8 x y
noncomputable def intsV : List V → Option (List Int)
  | [] => some []
  | x :: r => (intV x).bind fun i => (intsV r).map (i :: ·)
noncomputable def smallI (i : Int) : Bool := decide (-18446744073709551616 < i ∧ i < 18446744073709551616)
noncomputable def globV : Glob → V
  | .boundary => .tup [.str .boundary]
  | .inRegion => .int (-1)
  | .longest => .int 4194304
@[simp] theorem intV_int (i : Int) : intV (.int i) = some i := rfl
@[simp] theorem strV_str (w : Word) : strV (.str w) = some w := rfl
@[simp] theorem boolV_bool (b : Bool) : boolV (.bool b) = some b := rfl
@[simp] theorem tupV_tup (xs : List V) : tupV (.tup xs) = some xs := rfl
@[simp] theorem lstV_lst (xs : List V) : lstV (.lst xs) = some xs := rfl
@[simp] theorem maybeV_none : maybeV .none = some .none := rfl
@[simp] theorem maybeV_int (i : Int) : maybeV (.int i) = some (some i) := rfl
noncomputable def isNoneV : V → Bool
  | .none => true
  | _ => false
noncomputable def isEdict : V → Bool
  | .edict => true
  | _ => false
noncomputable def ev1 (H : St) (o : Op1) (x : V) : Option V := match o with
  | .neg => (intV x).map fun i => .int (-i)
  | .not_ => (boolV x).map fun b => .bool (!b)
  | .len => (itemsV H x).map fun xs => .int xs.length
  | .abs => (intV x).map fun i => .int (if i < 0 then -i else i)
  | .fld c i => (fldsV H c x).bind fun xs => xs[i]?
  | .isNone => some (.bool (isNoneV x))
  | .notNone => some (.bool (!(isNoneV x)))
  | .sum => (lstV x).bind fun xs => (intsV xs).map fun ns => .int ns.sum
  | .sorted => if isEdict x = true then some (.lst []) else .none
  | .range => (intV x).bind fun i => if i < 2147483648 then some (.rng 0 i 1) else .none
noncomputable def ints2 (x y : V) (f : Int → Int → Option V) : Option V := (intV x).bind fun a => (intV y).bind fun b => f a b
@[simp] theorem ints2_int (a b : Int) (f : Int → Int → Option V) : ints2 (.int a) (.int b) f = f a b := rfl
noncomputable def ev2 (H : St) (o : Op2) (x y : V) : Option V := match o with
  | .add => ints2 x y fun a b => some (.int (a + b))
  | .sub => ints2 x y fun a b => some (.int (a - b))
  | .mul => ints2 x y fun a b => if smallI a || smallI b then some (.int (a * b)) else .none
  | .fdiv => ints2 x y fun a b => if 0 < b ∧ b < 1073741824 then some (.int (a / b)) else .none
  | .mod => ints2 x y fun a b => if 0 < b then some (.int (a % b)) else .none
  | .lt => ints2 x y fun a b => some (.bool (decide (a < b)))
  | .le => ints2 x y fun a b => some (.bool (decide (a ≤ b)))
  | .gt => ints2 x y fun a b => some (.bool (decide (b < a)))
  | .ge => ints2 x y fun a b => some (.bool (decide (b ≤ a)))
  | .eq => (eqH H x y).map .bool
  | .ne => (eqH H x y).map fun b => .bool (!b)
  | .in_ => (intV x).bind fun k => (dictV H y).map fun m => .bool (dGet m k).isSome
  | .nin => (intV x).bind fun k => (dictV H y).map fun m => .bool (!(dGet m k).isSome)
  | .idx => (intV y).bind fun k => (seqV H x).bind fun xs => getAt xs k
  | .min => ints2 x y fun a b => some (.int (Min.min a b))
  | .max => ints2 x y fun a b => some (.int (Max.max a b))
  | .index => (intV y).bind fun k => (itemsV H x).bind fun xs => (intsV xs).bind fun ns => if k ∈ ns then some (.int (ns.idxOf k : Nat)) else .none
noncomputable def ev3 (H : St) (o : Op3) (x y z : V) : Option V := match o with
  | .get => (intV y).bind fun k => (dictV H x).map fun m => (dGet m k).getD z
  | .range => (intV x).bind fun a => (intV y).bind fun b => (intV z).bind fun c => if c ≠ 0 ∧ -2147483648 < a ∧ a < 2147483648 ∧ -2147483648 < b ∧ b < 2147483648 ∧ -2147483648 < c ∧ c < 2147483648 then some (.rng a b c) else .none
noncomputable def rngLen (a b c : Int) : Nat := if 0 < c then (if a < b then ((b - a - 1) / c + 1).toNat else 0) else (if b < a then ((a - b - 1) / (-c) + 1).toNat else 0)
noncomputable def rngItems (a b c : Int) : List V := (List.range (rngLen a b c)).map fun (k : Nat) => .int (a + c * k)
noncomputable def iterOf : V → Option (List V)
  | .lst xs => some xs
  | .rng a b c => if c ≠ 0 ∧ -2147483648 < a ∧ a < 2147483648 ∧ -2147483648 < b ∧ b < 2147483648 ∧ -2147483648 < c ∧ c < 2147483648 then some (rngItems a b c) else .none
  | _ => .none
noncomputable def unpackOf : V → Option (List V)
  | .lst xs => some xs
  | .tup xs => some xs
  | _ => .none
noncomputable def putAll (r : Loc) : List Nat → List V → Option Loc
  | [], [] => some r
  | i :: is, v :: vs => putAll (r.put i v) is vs
  | _, _ => .none
noncomputable def bindT (r : Loc) (is : List Nat) (v : V) : Option Loc := match is with
  | [i] => some (r.put i v)
  | is => (unpackOf v).bind fun vs => putAll r is vs
noncomputable def optP {α : Type} (o : Option α) (Q : α → Prop) : Prop := match o with
  | some x => Q x
  | .none => False
noncomputable def boolP (v : V) (Q : Bool → Prop) : Prop := match v with
  | .bool b => Q b
  | _ => False
noncomputable def binds1 (n : Nat) (x : V) : Option Loc := if n = 1 then some [some x] else (unpackOf x).bind fun vs => if vs.length = n then some (vs.map some) else .none
mutual
noncomputable def evP (H : St) (r : Loc) : E → Option V
  | .v i => (r[i]?).join
  | .none => some .none
  | .bool b => some (.bool b)
  | .int i => some (.int i)
  | .word w => some (.str w)
  | .glob g => some (globV g)
  | .op1 o a => (evP H r a).bind (ev1 H o)
  | .op2 o a b => (evP H r a).bind fun x => (evP H r b).bind fun y => ev2 H o x y
  | .frz l => match l with
    | .disp args => (evPs H r args).bind fun vs => if vs.length ≤ lim then some (.lst vs) else .none
    | _ => .none
  | .tup args => (evPs H r args).bind fun vs => if vs.length ≤ lim then some (.tup vs) else .none
  | _ => .none
noncomputable def evPs (H : St) (r : Loc) : EL → Option (List V)
  | .nil => some []
  | .cons e es => (evP H r e).bind fun v => (evPs H r es).map (v :: ·)
end
noncomputable def compRun (H : St) (elt cond : E) (n : Nat) : List V → Option (List V)
  | [] => some []
  | x :: xs => (binds1 n x).bind fun r => ((evP H r cond).bind boolV).bind fun b => match b with
    | true => (evP H r elt).bind fun y => (compRun H elt cond n xs).map (y :: ·)
    | false => compRun H elt cond n xs
noncomputable def initFn : Cls → Fn
  | .gap => .gapInit | .markers => .mkInit | .buffer => .bufInit | .ulist => .ulInit | .recording => .recInit | .undoing => .undInit | .beside => .besInit | .piece => .pieceInit
noncomputable def clsTab : List (Option Cls) := [.none, .none, .none, .none, .none, .none, .none, .none, .none, .none, .none, .none, .none, .none, .none, .none, .none, .none, .none, .none, .none, .none, .none, .none, .none, .none, .none, .none, .none, .none, .none, .none, .none, .none, .none, .none, .none, .none, .none, .none, .none, .none, .none, .none, .none, .none, some .ulist, some .ulist, some .ulist, some .ulist, some .ulist, some .ulist, some .ulist, some .ulist, some .undoing, some .beside, some .gap, some .gap, some .gap, some .gap, some .gap, some .gap, some .gap, some .markers, some .markers, some .markers, some .markers, some .markers, some .buffer, some .buffer, some .buffer, some .buffer, some .buffer, some .buffer, some .piece, some .recording, some .recording, some .recording]
noncomputable def Fn.cls (f : Fn) : Option Cls := (clsTab[f.i.1]?).join
noncomputable def isA (H : St) (f : Fn) (v : V) : Prop := match f.cls with
  | some c => (fldsV H c v).isSome = true
  | .none => False
noncomputable def pre3 (H : St) : Op3 → V → Prop
  | .get, x => (dictV H x).isSome = true
  | .range, _ => True
abbrev CallT := Fn → List V → St → (V → St → Prop) → (St → Prop) → Prop
mutual
noncomputable def wpE (C : CallT) (X : St → Prop) (r : Loc) : E → St → (V → St → Prop) → Prop
  | .v i, H, Q => optP (r[i]?).join fun x => Q x H
  | .none, H, Q => Q .none H
  | .bool b, H, Q => Q (.bool b) H
  | .int i, H, Q => Q (.int i) H
  | .word w, H, Q => Q (.str w) H
  | .glob g, H, Q => Q (globV g) H
  | .edict, H, Q => Q .edict H
  | .bad, _, _ => False
  | .op1 o a, H, Q => wpE C X r a H fun x H => optP (ev1 H o x) fun z => Q z H
  | .op2 o a b, H, Q => wpE C X r a H fun x H => wpE C X r b H fun y H => optP (ev2 H o x y) fun z => Q z H
  | .op3 o a b c, H, Q => wpE C X r a H fun x H => pre3 H o x ∧ wpE C X r b H fun y H => wpE C X r c H fun z H => optP (ev3 H o x y z) fun u => Q u H
  | .ite t a b, H, Q => wpE C X r t H fun v H => boolP v fun b' => if b' then wpE C X r a H Q else wpE C X r b H Q
  | .and_ a b, H, Q => wpE C X r a H fun v H => boolP v fun b' => if b' then wpE C X r b H fun v H => boolP v fun b' => Q (.bool b') H else Q (.bool false) H
  | .or_ a b, H, Q => wpE C X r a H fun v H => boolP v fun b' => if b' then Q (.bool true) H else wpE C X r b H fun v H => boolP v fun b' => Q (.bool b') H
  | .chain a b c, H, Q => wpE C X r a H fun x H => wpE C X r b H fun y H => optP (ev2 H .le x y) fun v => boolP v fun b' =>
      if b' then wpE C X r c H fun z H => optP (ev2 H .le y z) fun v => Q v H else Q (.bool false) H
  | .call f args, H, Q => wpEs C X r args H fun vs H => C f vs H Q X
  | .meth f o args, H, Q => wpE C X r o H fun v H => isA H f v ∧ wpEs C X r args H fun vs H => C f (v :: vs) H Q X
  | .new c t args, H, Q => wpEs C X r args H fun vs H => ∀ a, C (initFn c) (.ref t a :: vs) (upd H t (some (a, .inst c []))) (fun y H' => y = .none ∧ Q (.ref t a) H') (fun _ => False)
  | .newF c args, H, Q => wpEs C X r args H fun vs H => ∀ a, C (initFn c) (.ref .tmp a :: vs) (upd H .tmp (some (a, .inst c [])))
      (fun y H' => y = .none ∧ optP (fldsV H' c (.ref .tmp a)) fun xs => Q (.inst c xs) (upd H' .tmp .none)) (fun _ => False)
  | .tup args, H, Q => wpEs C X r args H fun vs H => vs.length ≤ lim ∧ Q (.tup vs) H
  | .frz l, H, Q => wpL C X r l H fun xs H => xs.length ≤ lim ∧ Q (.lst xs) H
  | .thw t l, H, Q => wpL C X r l H fun xs H => xs.length ≤ lim ∧ ∀ a, Q (.ref t a) (upd H t (some (a, .list xs)))
  | .thwD t, H, Q => ∀ a, Q (.ref t a) (upd H t (some (a, .dict [])))
noncomputable def wpEs (C : CallT) (X : St → Prop) (r : Loc) : EL → St → (List V → St → Prop) → Prop
  | .nil, H, Q => Q [] H
  | .cons e es, H, Q => wpE C X r e H fun v H => wpEs C X r es H fun vs H => Q (v :: vs) H
noncomputable def wpL (C : CallT) (X : St → Prop) (r : Loc) : L → St → (List V → St → Prop) → Prop
  | .disp args, H, Q => wpEs C X r args H Q
  | .cat a b, H, Q => wpE C X r a H fun x H => wpE C X r b H fun y H => optP (itemsV H x) fun xs => optP (itemsV H y) fun ys => Q (xs ++ ys) H
  | .rep a b, H, Q => wpE C X r a H fun x H => wpE C X r b H fun y H => optP (itemsV H x) fun xs => optP (one xs) fun x => optP (intV y) fun k => (0 ≤ k ∧ k < 16777216) ∧ Q (List.replicate k.toNat x.1) H
  | .slc a lo hi, H, Q => wpE C X r a H fun x H => wpE C X r lo H fun l H => wpE C X r hi H fun h H => optP (itemsV H x) fun xs => optP (intV l) fun l => optP (intV h) fun h => Q (pySlice xs l h) H
  | .frm a lo, H, Q => wpE C X r a H fun x H => wpE C X r lo H fun l H => optP (itemsV H x) fun xs => optP (intV l) fun l => Q (xs.drop (clip xs.length l)) H
  | .upt a hi, H, Q => wpE C X r a H fun x H => wpE C X r hi H fun h H => optP (itemsV H x) fun xs => optP (intV h) fun h => Q (xs.take (clip xs.length h)) H
  | .rev a, H, Q => wpE C X r a H fun x H => optP (itemsV H x) fun xs => Q xs.reverse H
  | .copy a, H, Q => wpE C X r a H fun x H => optP (itemsV H x) fun xs => Q xs H
  | .comp elt cond n src, H, Q => wpE C X r src H fun x H => optP (iterOf x) fun xs => optP (compRun H elt cond n xs) fun ys => Q ys H
end
inductive MapIs {α β : Type} (o : Option α) (f : α → β) (b : β) : Prop | mk (a : α) (h : o = some a) (e : f a = b)
theorem map_is {α β : Type} {o : Option α} {f : α → β} {b : β} (h : o.map f = some b) : MapIs o f b := by
  cases o with
  | none => cases h
  | some a => exact ⟨a, rfl, Option.some.inj h⟩
inductive BindIs {α β : Type} (o : Option α) (f : α → Option β) (b : β) : Prop | mk (a : α) (h : o = some a) (e : f a = some b)
theorem bind_is {α β : Type} {o : Option α} {f : α → Option β} {b : β} (h : o.bind f = some b) : BindIs o f b := by
  cases o with
  | none => cases h
  | some a => exact ⟨a, rfl, h⟩
theorem if_is {c : Prop} [Decidable c] {α : Type} {x y : α} (h : (if c then some x else none) = some y) : c ∧ x = y := by
  by_cases q : c
  · rw [if_pos q] at h; cases h; exact ⟨q, rfl⟩
  · rw [if_neg q] at h; cases h
noncomputable def got {α : Type} : (o : Option α) → Option {a : α // o = some a}
  | some a => some ⟨a, rfl⟩
  | none => none
theorem got_of {α : Type} {o : Option α} {a : α} (h : o = some a) : got o = some ⟨a, h⟩ := by subst h; rfl
noncomputable def objAt (H : St) : (v : V) → Option {p : Tag × Nat × O // v = .ref p.1 p.2.1 ∧ H p.1 = some p.2}
  | .ref t a => (got (H t)).bind fun o => if e : a = o.1.1 then some ⟨(t, o.1), congrArg (V.ref t) e, o.2⟩ else .none
  | _ => .none
noncomputable def listO : (o : O) → Option {xs : List V // o = .list xs}
  | .list xs => some ⟨xs, rfl⟩
  | _ => .none
noncomputable def dictO : (o : O) → Option {m : List (Int × V) // o = .dict m}
  | .dict m => some ⟨m, rfl⟩
  | _ => .none
noncomputable def instO (c : Cls) : (o : O) → Option {xs : List V // o = .inst c xs}
  | .inst c' xs => if e : c' = c then some ⟨xs, congrArg (O.inst · xs) e⟩ else .none
  | _ => .none
noncomputable def onO {α : Type} (g : α → O) (pr : (o : O) → Option {x : α // o = g x}) (H : St) (y : V) (f : Tag → Nat → α → Option St) : Option St := (objAt H y).bind fun p => (pr p.1.2.2).bind fun x => f p.1.1 p.1.2.1 x.1
inductive OnIs {α : Type} (g : α → O) (H : St) (y : V) (f : Tag → Nat → α → Option St) (r : St) : Prop | mk (t : Tag) (a : Nat) (x : α) (hy : y = .ref t a) (hH : H t = some (a, g x)) (e : f t a x = some r)
theorem onO_is {α : Type} {g : α → O} {pr : (o : O) → Option {x : α // o = g x}} {H : St} {y : V} {f : Tag → Nat → α → Option St} {r : St} (e : onO g pr H y f = some r) : OnIs g H y f r := by
  obtain ⟨p, _, e⟩ := bind_is e
  obtain ⟨x, _, e⟩ := bind_is e
  exact ⟨_, _, _, p.2.1, x.2 ▸ p.2.2, e⟩
theorem onO_of {α : Type} {g : α → O} {pr : (o : O) → Option {x : α // o = g x}} {H : St} {t : Tag} {a : Nat} {x : α} {f : Tag → Nat → α → Option St} (h : H t = some (a, g x)) (hp : pr (g x) = some ⟨x, rfl⟩) : onO g pr H (.ref t a) f = f t a x := by
  show ((got (H t)).bind _).bind _ = _
  rw [got_of h]
  show (dite (a = a) _ _ : Option _).bind _ = _
  rw [dif_pos rfl]
  show (pr (g x)).bind _ = _
  rw [hp]; rfl
theorem instO_self (c : Cls) (xs : List V) : instO c (.inst c xs) = some ⟨xs, rfl⟩ := dif_pos rfl
noncomputable def setFld (H : St) (c : Cls) (i : Nat) (x y : V) : Option St := onO (.inst c) (instO c) H y fun t a xs =>
  if i < xs.length then some (upd H t (some (a, .inst c (xs.set i x)))) else if i = xs.length then some (upd H t (some (a, .inst c (xs ++ [x])))) else .none
noncomputable def itemIdx (k : Int) (n : Nat) : Option Nat := if 0 ≤ k ∧ k < n then some k.toNat else if k < 0 ∧ 0 ≤ k + n then some (k + n).toNat else .none
noncomputable def setItem (H : St) (k : Int) (x y : V) : Option St := onO .list listO H y fun t a xs => (itemIdx k xs.length).map fun j => upd H t (some (a, .list (xs.set j x)))
noncomputable def setDict (H : St) (k : Int) (x y : V) : Option St := onO .dict dictO H y fun t a m => if m.length < 16777216 then some (upd H t (some (a, .dict (dPut m k x)))) else .none
noncomputable def setSlc (H : St) (lo hi : Int) (ys : List V) (y : V) : Option St := onO .list listO H y fun t a xs => if xs.length + ys.length ≤ lim then some (upd H t (some (a, .list (setSlice xs lo hi ys)))) else .none
noncomputable def appendTo (H : St) (x y : V) : Option St := onO .list listO H y fun t a xs => if xs.length + 1 ≤ lim then some (upd H t (some (a, .list (xs ++ [x])))) else .none
noncomputable def popFrom (H : St) (y : V) : Option St := onO .list listO H y fun t a xs => match xs with
  | _ :: xs => some (upd H t (some (a, .list xs)))
  | [] => .none
noncomputable def dictPop (H : St) (k : Int) (y : V) : Option St := onO .dict dictO H y fun t a m => if (dGet m k).isSome = true ∧ m.length < 16777216 then some (upd H t (some (a, .dict (dDel m k)))) else .none
noncomputable def forRec (body : V → Loc → St → (Loc → St → Prop) → Prop) : List V → Loc → St → (Loc → St → Prop) → Prop
  | [], r, H, N => N r H
  | x :: xs, r, H, N => body x r H fun r H => forRec body xs r H N
noncomputable def whlRec (test : Loc → St → (Bool → St → Prop) → Prop) (body : Loc → St → (Loc → St → Prop) → Prop) : Nat → Loc → St → (Loc → St → Prop) → Prop
  | 0, _, _, _ => False
  | n + 1, r, H, N => test r H fun b H => if b then body r H fun r H => whlRec test body n r H N else N r H
mutual
noncomputable def wpS (C : CallT) (X : St → Prop) (R : V → St → Prop) : S → Loc → St → (Loc → St → Prop) → Prop
  | .asg i e, r, H, N => wpE C X r e H fun x H => N (r.put i x) H
  | .asgT is e, r, H, N => wpE C X r e H fun x H => optP (bindT r is x) fun r' => N r' H
  | .asgW is es, r, H, N => wpEs C X r es H fun vs H => optP (putAll r is vs) fun r' => N r' H
  | .setF o c i e, r, H, N => wpE C X r e H fun x H => wpE C X r o H fun y H => optP (setFld H c i x y) fun H' => N r H'
  | .setI o k e, r, H, N => wpE C X r e H fun x H => wpE C X r o H fun y H => wpE C X r k H fun z H => optP (intV z) fun k => optP (setItem H k x y) fun H' => N r H'
  | .setD o k e, r, H, N => wpE C X r e H fun x H => wpE C X r o H fun y H => wpE C X r k H fun z H => optP (intV z) fun k => optP (setDict H k x y) fun H' => N r H'
  | .setS o lo hi e, r, H, N => wpE C X r e H fun x H => wpE C X r o H fun y H => wpE C X r lo H fun l H => wpE C X r hi H fun h H => optP (intV l) fun l => optP (intV h) fun h => optP (itemsV H x) fun ys => optP (setSlc H l h ys y) fun H' => N r H'
  | .ex e, r, H, N => wpE C X r e H fun _ H => N r H
  | .app o e, r, H, N => wpE C X r o H fun y H => (itemsV H y).isSome = true ∧ wpE C X r e H fun x H => optP (appendTo H x y) fun H' => N r H'
  | .pop0 o, r, H, N => wpE C X r o H fun y H => optP (popFrom H y) fun H' => N r H'
  | .dpop o k, r, H, N => wpE C X r o H fun y H => (dictV H y).isSome = true ∧ wpE C X r k H fun z H => optP (intV z) fun k => optP (dictPop H k y) fun H' => N r H'
  | .ret e, r, H, _ => wpE C X r e H R
  | .ite t a b, r, H, N => wpE C X r t H fun v H => boolP v fun c => if c then wpSL C X R a r H N else wpSL C X R b r H N
  | .whl t b, r, H, N => ∃ n, whlRec (fun r H K => wpE C (fun _ => False) r t H fun v H => boolP v fun c => K c H) (fun r H K => wpSL C (fun _ => False) R b r H K) n r H N
  | .for_ is it b, r, H, N => wpE C X r it H fun v H => optP (iterOf v) fun xs => forRec (fun x r H K => optP (bindT r is x) fun r' => wpSL C (fun _ => False) R b r' H K) xs r H N
  | .try_ e i, r, H, N => wpE C (fun H => optP (r[i]?).join fun x => R x H) r e H fun _ H => N r H
  | .raise_ es, r, H, _ => wpEs C X r es H fun _ H => X H
  | .bad, _, _, _ => False
noncomputable def wpSL (C : CallT) (X : St → Prop) (R : V → St → Prop) : SL → Loc → St → (Loc → St → Prop) → Prop
  | .nil, r, H, N => N r H
  | .cons s rest, r, H, N => wpS C X R s r H fun r H => wpSL C X R rest r H N
end
structure Def where
  params : Nat
  names : List String
  dflts : List V
  body : SL
noncomputable def argsOf (d : Def) (vs : List V) : List V := vs ++ d.dflts.drop (vs.length + d.dflts.length - d.params)
noncomputable def callAt (defs : Fn → Def) : Nat → CallT
  | 0, _, _, _, _, _ => False
  | n + 1, f, vs, H, Q, X => (argsOf (defs f) vs).length = (defs f).params ∧
      wpSL (callAt defs n) X Q (defs f).body ((argsOf (defs f) vs).map some ++ List.replicate ((defs f).names.length - (defs f).params) .none) H fun _ H => Q .none H
end Mine
set_option backward.match.sparseCases false
namespace Mine
noncomputable def ir_needWritable : SL :=
  (.cons (.ite (.op1 (.fld .buffer 9) (.v 0))
      (.cons (.raise_ (.cons (.word .bufRead) (.cons (.frz (.disp (.cons (.op1 (.fld .buffer 1) (.v 0)) .nil))) .nil)))
    .nil)
      .nil)
    .nil)
noncomputable def ir_needRoom : SL :=
  (.cons (.ite (.op2 .gt (.op2 .add (.meth .bufSize (.v 0) .nil) (.v 1)) (.glob .longest))
      (.cons (.raise_ (.cons (.word .err) (.cons (.frz (.disp (.cons (.word .maxSize) .nil))) .nil)))
    .nil)
      .nil)
    .nil)
noncomputable def ir_reached : SL :=
  (.cons (.asgW [3, 4] (.cons (.op2 .min (.v 1) (.v 2)) (.cons (.op2 .max (.v 1) (.v 2)) .nil)))
    (.cons (.ite (.or_ (.op2 .lt (.v 3) (.op1 (.fld .buffer 5) (.v 0))) (.op2 .gt (.v 4) (.op1 (.fld .buffer 6) (.v 0))))
      (.cons (.raise_ (.cons (.word .outOfRange) (.cons (.frz (.disp (.cons (.v 1) (.cons (.v 2) .nil)))) .nil)))
    .nil)
      .nil)
    (.cons (.ret (.tup (.cons (.v 3) (.cons (.v 4) .nil))))
    .nil)))
noncomputable def ir_tellAhead : SL :=
  (.cons (.for_ [3] (.frz (.copy (.op1 (.fld .buffer 13) (.v 0))))
      (.cons .bad
    .nil))
    .nil)
noncomputable def ir_tellBehind : SL :=
  (.cons (.ex (.meth .bufTouch (.v 0) (.cons (.bool true) .nil)))
    (.cons (.for_ [4] (.frz (.copy (.op1 (.fld .buffer 13) (.v 0))))
      (.cons .bad
    .nil))
    .nil))
noncomputable def ir_textOut : SL :=
  (.cons (.ite (.op1 .notNone (.op1 (.fld .buffer 14) (.v 0)))
      (.cons (.ex (.meth .recTextGoes (.op1 (.fld .buffer 14) (.v 0)) (.cons (.v 0) (.cons (.v 1) (.cons (.v 2) .nil)))))
    .nil)
      .nil)
    (.cons (.asg 3 (.meth .gapDelete (.op1 (.fld .buffer 2) (.v 0)) (.cons (.op2 .sub (.v 1) (.int 1)) (.cons (.op2 .sub (.v 2) (.int 1)) .nil))))
    (.cons (.setF (.v 0) .buffer 6 (.op2 .sub (.op1 (.fld .buffer 6) (.v 0)) (.op2 .sub (.v 2) (.v 1))))
    (.cons (.ite (.op2 .gt (.op1 (.fld .buffer 4) (.v 0)) (.v 1))
      (.cons (.setF (.v 0) .buffer 4 (.op2 .max (.v 1) (.op2 .sub (.op1 (.fld .buffer 4) (.v 0)) (.op2 .sub (.v 2) (.v 1)))))
    .nil)
      .nil)
    (.cons (.ret (.v 3))
    .nil)))))
noncomputable def ir_textIn : SL :=
  (.cons (.ite (.op1 .notNone (.op1 (.fld .buffer 14) (.v 0)))
      (.cons (.ex (.meth .recTextComes (.op1 (.fld .buffer 14) (.v 0)) (.cons (.v 0) (.cons (.v 1) (.cons (.op1 .len (.v 2)) .nil)))))
    .nil)
      .nil)
    (.cons (.ex (.meth .gapInsert (.op1 (.fld .buffer 2) (.v 0)) (.cons (.op2 .sub (.v 1) (.int 1)) (.cons (.v 2) .nil))))
    (.cons (.setF (.v 0) .buffer 6 (.op2 .add (.op1 (.fld .buffer 6) (.v 0)) (.op1 .len (.v 2))))
    (.cons (.ite (.op2 .gt (.op1 (.fld .buffer 4) (.v 0)) (.v 1))
      (.cons (.setF (.v 0) .buffer 4 (.op2 .add (.op1 (.fld .buffer 4) (.v 0)) (.op1 .len (.v 2))))
    .nil)
      .nil)
    .nil))))
noncomputable def ir_hungOut : SL :=
  (.cons (.ite (.op1 .notNone (.op1 (.fld .buffer 15) (.v 0)))
      (.cons .bad
    .nil)
      .nil)
    (.cons (.ite (.op1 .notNone (.op1 (.fld .buffer 16) (.v 0)))
      (.cons .bad
    .nil)
      .nil)
    .nil))
noncomputable def ir_hungIn : SL :=
  (.cons (.ite (.op1 .notNone (.op1 (.fld .buffer 15) (.v 0)))
      (.cons .bad
    .nil)
      .nil)
    (.cons (.ite (.op1 .notNone (.op1 (.fld .buffer 16) (.v 0)))
      (.cons .bad
    .nil)
      .nil)
    .nil))
noncomputable def ir_putIn : SL :=
  (.cons (.ex (.call .needWritable (.cons (.v 0) .nil)))
    (.cons (.ex (.call .reached (.cons (.v 0) (.cons (.v 1) (.cons (.v 1) .nil)))))
    (.cons (.ite (.op2 .eq (.op1 .len (.v 2)) (.int 0))
      (.cons (.ret .none)
    .nil)
      .nil)
    (.cons (.ex (.call .needRoom (.cons (.v 0) (.cons (.op1 .len (.v 2)) .nil))))
    (.cons (.ex (.call .tellAhead (.cons (.v 0) (.cons (.v 1) (.cons (.v 1) .nil)))))
    (.cons (.ex (.call .textIn (.cons (.v 0) (.cons (.v 1) (.cons (.v 2) .nil)))))
    (.cons (.ite (.v 4)
      (.cons (.setF (.v 0) .buffer 4 (.op2 .add (.v 1) (.op1 .len (.v 2))))
    .nil)
      .nil)
    (.cons (.ex (.meth .mkInserted (.op1 (.fld .buffer 3) (.v 0)) (.cons (.v 1) (.cons (.op2 .add (.v 1) (.op1 .len (.v 2))) (.cons (.v 3) .nil)))))
    (.cons (.ex (.call .hungIn (.cons (.v 0) (.cons (.v 1) (.cons (.op1 .len (.v 2)) (.cons (.v 3) .nil))))))
    (.cons (.ex (.call .tellBehind (.cons (.v 0) (.cons (.v 1) (.cons (.op2 .add (.v 1) (.op1 .len (.v 2))) (.cons (.int 0) .nil))))))
    .nil))))))))))
noncomputable def ir_insertAt : SL :=
  (.cons (.ex (.call .putIn (.cons (.v 0) (.cons (.v 1) (.cons (.v 2) (.cons (.v 3) (.cons (.bool false) .nil)))))))
    .nil)
noncomputable def ir_insert : SL :=
  (.cons (.ex (.call .putIn (.cons (.v 0) (.cons (.op1 (.fld .buffer 4) (.v 0)) (.cons (.v 1) (.cons (.v 2) (.cons (.bool true) .nil)))))))
    .nil)
noncomputable def ir_delete : SL :=
  (.cons (.ex (.call .needWritable (.cons (.v 0) .nil)))
    (.cons (.asgT [4, 5] (.call .reached (.cons (.v 0) (.cons (.v 1) (.cons (.v 2) .nil)))))
    (.cons (.ite (.op2 .eq (.v 4) (.v 5))
      (.cons (.ret (.frz (.disp .nil)))
    .nil)
      .nil)
    (.cons (.ex (.call .tellAhead (.cons (.v 0) (.cons (.v 4) (.cons (.v 5) .nil)))))
    (.cons (.asg 3 (.call .textOut (.cons (.v 0) (.cons (.v 4) (.cons (.v 5) .nil)))))
    (.cons (.ex (.meth .mkDeleted (.op1 (.fld .buffer 3) (.v 0)) (.cons (.v 4) (.cons (.v 5) .nil))))
    (.cons (.ex (.call .hungOut (.cons (.v 0) (.cons (.v 4) (.cons (.v 5) .nil)))))
    (.cons (.ex (.call .tellBehind (.cons (.v 0) (.cons (.v 4) (.cons (.v 4) (.cons (.op2 .sub (.v 5) (.v 4)) .nil))))))
    (.cons (.ret (.v 3))
    .nil)))))))))
noncomputable def ir_insertPiece : SL :=
  (.cons (.asg 2 (.op1 (.fld .buffer 4) (.v 0)))
    (.cons (.ex (.call .insert (.cons (.v 0) (.cons (.op1 (.fld .piece 0) (.v 1)) .nil))))
    (.cons (.ite (.and_ (.op1 .notNone (.op1 (.fld .buffer 15) (.v 0))) (.op2 .gt (.op1 .len (.op1 (.fld .piece 0) (.v 1))) (.int 0)))
      (.cons (.asg 3 (.frz (.disp (.cons (.tup (.cons (.op2 .sub (.v 2) (.int 1)) (.cons (.op2 .add (.op2 .sub (.v 2) (.int 1)) (.op1 .len (.op1 (.fld .piece 0) (.v 1)))) (.cons (.frz (.disp .nil)) .nil)))) .nil))))
    (.cons (.asg 3 (.frz (.cat (.v 3) (.frz (.comp .bad (.bool true) 3 (.op1 (.fld .piece 1) (.v 1)))))))
    (.cons .bad
    .nil)))
      .nil)
    .nil)))
noncomputable def ir_ulInit : SL :=
  (.cons (.setF (.v 0) .ulist 0 (.thw .rows (.disp .nil)))
    (.cons (.setF (.v 0) .ulist 1 (.int 0))
    (.cons (.setF (.v 0) .ulist 2 (.bool true))
    (.cons (.setF (.v 0) .ulist 3 .none)
    (.cons (.setF (.v 0) .ulist 4 .none)
    .nil)))))
noncomputable def ir_ulCount : SL :=
  (.cons (.ret (.op2 .add (.op1 (.fld .ulist 1) (.v 0)) (.op1 .len (.op1 (.fld .ulist 0) (.v 0)))))
    .nil)
noncomputable def ir_ulIsAtBoundary : SL :=
  (.cons (.ret (.or_ (.op2 .eq (.op1 .len (.op1 (.fld .ulist 0) (.v 0))) (.int 0)) (.op2 .eq (.op2 .idx (.op1 (.fld .ulist 0) (.v 0)) (.int (-1))) (.glob .boundary))))
    .nil)
noncomputable def ir_ulBoundary : SL :=
  (.cons (.ite (.op1 .not_ (.meth .ulIsAtBoundary (.v 0) .nil))
      (.cons (.app (.op1 (.fld .ulist 0) (.v 0)) (.glob .boundary))
    .nil)
      .nil)
    .nil)
noncomputable def ir_ulNoteState : SL :=
  (.cons (.ite (.and_ (.op1 .not_ (.v 1)) (.op2 .ne (.v 2) (.op1 (.fld .ulist 4) (.v 0))))
      (.cons (.app (.op1 (.fld .ulist 0) (.v 0)) (.tup (.cons (.word .unmodified) (.cons (.v 2) .nil))))
    (.cons (.setF (.v 0) .ulist 4 (.v 2))
    .nil))
      .nil)
    .nil)
noncomputable def ir_ulNoteBegin : SL :=
  (.cons (.asg 4 (.meth .ulIsAtBoundary (.v 0) .nil))
    (.cons (.ex (.meth .ulNoteState (.v 0) (.cons (.v 2) (.cons (.v 3) .nil))))
    (.cons (.ite (.and_ (.v 4) (.and_ (.op1 .notNone (.op1 (.fld .ulist 3) (.v 0))) (.op2 .ne (.op1 (.fld .ulist 3) (.v 0)) (.v 1))))
      (.cons (.app (.op1 (.fld .ulist 0) (.v 0)) (.tup (.cons (.word .point) (.cons (.op1 (.fld .ulist 3) (.v 0)) .nil))))
    .nil)
      .nil)
    .nil)))
noncomputable def ir_ulNoteInsert : SL :=
  (.cons (.ite (.or_ (.op1 .not_ (.op1 (.fld .ulist 2) (.v 0))) (.op2 .eq (.v 2) (.int 0)))
      (.cons (.ret .none)
    .nil)
      .nil)
    (.cons (.ex (.meth .ulNoteBegin (.v 0) (.cons (.v 1) (.cons (.v 4) (.cons (.v 5) .nil)))))
    (.cons (.asg 6 (.ite (.op2 .gt (.op1 .len (.op1 (.fld .ulist 0) (.v 0))) (.int 0)) (.op2 .idx (.op1 (.fld .ulist 0) (.v 0)) (.int (-1))) (.glob .boundary)))
    (.cons (.ite (.and_ (.op2 .eq (.op2 .idx (.v 6) (.int 0)) (.word .insert)) (.op2 .eq (.op2 .idx (.v 6) (.int 2)) (.v 1)))
      (.cons (.setI (.op1 (.fld .ulist 0) (.v 0)) (.int (-1)) (.tup (.cons (.word .insert) (.cons (.op2 .idx (.v 6) (.int 1)) (.cons (.op2 .add (.v 1) (.v 2)) .nil)))))
    .nil)
      (.cons (.app (.op1 (.fld .ulist 0) (.v 0)) (.tup (.cons (.word .insert) (.cons (.v 1) (.cons (.op2 .add (.v 1) (.v 2)) .nil)))))
    .nil))
    .nil))))
noncomputable def ir_ulNoteDelete : SL :=
  (.cons (.ite (.or_ (.op1 .not_ (.op1 (.fld .ulist 2) (.v 0))) (.op2 .eq (.op1 .len (.op1 (.fld .piece 0) (.v 2))) (.int 0)))
      (.cons (.ret .none)
    .nil)
      .nil)
    (.cons (.ex (.meth .ulNoteBegin (.v 0) (.cons (.v 1) (.cons (.v 5) (.cons (.v 6) .nil)))))
    (.cons (.for_ [7, 8] (.v 4)
      (.cons (.ite (.op2 .ne (.v 8) (.int 0))
      (.cons (.app (.op1 (.fld .ulist 0) (.v 0)) (.tup (.cons (.word .marker) (.cons (.v 7) (.cons (.v 8) .nil)))))
    .nil)
      .nil)
    .nil))
    (.cons (.app (.op1 (.fld .ulist 0) (.v 0)) (.tup (.cons (.word .delete) (.cons (.v 1) (.cons (.v 2) (.cons (.op2 .eq (.v 3) (.op2 .add (.v 1) (.op1 .len (.op1 (.fld .piece 0) (.v 2))))) .nil))))))
    .nil))))
noncomputable def ir_needVisible : SL :=
  (.cons (.ite (.or_ (.op2 .lt (.v 1) (.op1 (.fld .buffer 5) (.v 0))) (.op2 .gt (.v 2) (.op1 (.fld .buffer 6) (.v 0))))
      (.cons (.raise_ (.cons (.word .err) (.cons (.frz (.disp (.cons (.word .outside) .nil))) .nil)))
    .nil)
      .nil)
    .nil)
noncomputable def ir_markersAhead : SL :=
  (.cons (.asg 2 (.frz (.disp .nil)))
    (.cons (.whl (.and_ (.op2 .gt (.v 1) (.int 0)) (.op2 .eq (.op2 .idx (.op2 .idx (.v 0) (.op2 .sub (.v 1) (.int 1))) (.int 0)) (.word .marker)))
      (.cons (.asg 1 (.op2 .sub (.v 1) (.int 1)))
    (.cons (.app (.v 2) (.op2 .idx (.v 0) (.v 1)))
    .nil)))
    (.cons (.ret (.v 2))
    .nil)))
noncomputable def ir_undoInsert : SL :=
  (.cons (.ex (.call .needVisible (.cons (.v 0) (.cons (.op2 .idx (.v 1) (.int 1)) (.cons (.op2 .idx (.v 1) (.int 2)) .nil)))))
    (.cons (.ex (.meth .bufGoto (.v 0) (.cons (.op2 .idx (.v 1) (.int 1)) .nil)))
    (.cons (.ex (.call .delete (.cons (.v 0) (.cons (.op2 .idx (.v 1) (.int 1)) (.cons (.op2 .idx (.v 1) (.int 2)) .nil)))))
    .nil)))
noncomputable def ir_undoDelete : SL :=
  (.cons (.ex (.call .needVisible (.cons (.v 0) (.cons (.op2 .idx (.v 1) (.int 1)) (.cons (.op2 .idx (.v 1) (.int 1)) .nil)))))
    (.cons (.asg 3 (.frz (.disp .nil)))
    (.cons (.for_ [4, 5, 6] (.v 2)
      (.cons .bad
    .nil))
    (.cons (.ex (.meth .bufGoto (.v 0) (.cons (.op2 .idx (.v 1) (.int 1)) .nil)))
    (.cons (.ex (.call .insertPiece (.cons (.v 0) (.cons (.op2 .idx (.v 1) (.int 2)) .nil))))
    (.cons (.ite (.op1 .not_ (.op2 .idx (.v 1) (.int 3)))
      (.cons (.ex (.meth .bufGoto (.v 0) (.cons (.op2 .idx (.v 1) (.int 1)) .nil)))
    .nil)
      .nil)
    (.cons (.for_ [5, 6] (.v 3)
      (.cons .bad
    .nil))
    .nil)))))))
noncomputable def ir_undoRow : SL :=
  (.cons (.asg 3 (.op2 .idx (.v 1) (.op2 .sub (.v 2) (.int 1))))
    (.cons (.asg 2 (.op2 .sub (.v 2) (.int 1)))
    (.cons (.ite (.op2 .eq (.op2 .idx (.v 3) (.int 0)) (.word .insert))
      (.cons (.ex (.call .undoInsert (.cons (.v 0) (.cons (.v 3) .nil))))
    .nil)
      (.cons (.ite (.op2 .eq (.op2 .idx (.v 3) (.int 0)) (.word .delete))
      (.cons (.asg 4 (.call .markersAhead (.cons (.v 1) (.cons (.v 2) .nil))))
    (.cons (.ex (.call .undoDelete (.cons (.v 0) (.cons (.v 3) (.cons (.v 4) .nil)))))
    (.cons (.asg 2 (.op2 .sub (.v 2) (.op1 .len (.v 4))))
    .nil)))
      (.cons (.ite (.op2 .eq (.op2 .idx (.v 3) (.int 0)) (.word .point))
      (.cons (.ex (.meth .bufGoto (.v 0) (.cons (.op2 .idx (.v 3) (.int 1)) .nil)))
    .nil)
      (.cons (.ite (.op2 .eq (.op2 .idx (.v 3) (.int 0)) (.word .property))
      (.cons (.ex (.call .needVisible (.cons (.v 0) (.cons (.op2 .idx (.v 3) (.int 1)) (.cons (.op2 .idx (.v 3) (.int 2)) .nil)))))
    (.cons .bad
    .nil))
      (.cons (.ite (.and_ (.op2 .eq (.op2 .idx (.v 3) (.int 0)) (.word .unmodified)) (.op2 .eq (.op2 .idx (.v 3) (.int 1)) (.op1 (.fld .buffer 12) (.v 0))))
      (.cons .bad
    (.cons (.ite (.op1 .notNone (.op1 (.fld .buffer 14) (.v 0)))
      (.cons .bad
    .nil)
      .nil)
    .nil))
      .nil)
    .nil))
    .nil))
    .nil))
    .nil))
    (.cons (.ret (.v 2))
    .nil))))
noncomputable def ir_aboveBoundaries : SL :=
  (.cons (.whl (.and_ (.op2 .gt (.v 1) (.int 0)) (.op2 .eq (.op2 .idx (.v 0) (.op2 .sub (.v 1) (.int 1))) (.glob .boundary)))
      (.cons (.asg 1 (.op2 .sub (.v 1) (.int 1)))
    .nil))
    (.cons (.ret (.v 1))
    .nil))
noncomputable def ir_undoGroup : SL :=
  (.cons (.asg 2 (.call .aboveBoundaries (.cons (.v 1) (.cons (.v 2) .nil))))
    (.cons (.whl (.and_ (.op2 .gt (.v 2) (.int 0)) (.op2 .ne (.op2 .idx (.v 1) (.op2 .sub (.v 2) (.int 1))) (.glob .boundary)))
      (.cons (.asg 2 (.call .undoRow (.cons (.v 0) (.cons (.v 1) (.cons (.v 2) .nil)))))
    .nil))
    (.cons (.ret (.v 2))
    .nil)))
noncomputable def ir_besInit : SL :=
  (.cons (.setF (.v 0) .beside 0 (.thw .strs (.disp (.cons (.frz (.disp (.cons (.word .same) (.cons (.v 1) .nil)))) .nil))))
    (.cons (.setF (.v 0) .beside 1 (.v 2))
    (.cons (.setF (.v 0) .beside 2 (.v 3))
    .nil)))
noncomputable def ir_splitThere : SL :=
  (.cons (.asg 2 (.int 0))
    (.cons (.asg 3 (.v 1))
    (.cons (.whl (.and_ (.op2 .lt (.v 2) (.op1 .len (.op1 (.fld .beside 0) (.v 0)))) (.op2 .gt (.v 3) (.int 0)))
      (.cons (.asgT [4, 5] (.op2 .idx (.op1 (.fld .beside 0) (.v 0)) (.v 2)))
    (.cons (.ite (.op2 .ne (.v 4) (.word .new))
      (.cons (.ite (.op2 .gt (.v 5) (.v 3))
      (.cons (.setS (.op1 (.fld .beside 0) (.v 0)) (.v 2) (.op2 .add (.v 2) (.int 1)) (.frz (.disp (.cons (.frz (.disp (.cons (.v 4) (.cons (.v 3) .nil)))) (.cons (.frz (.disp (.cons (.v 4) (.cons (.op2 .sub (.v 5) (.v 3)) .nil)))) .nil)))))
    (.cons (.asg 5 (.v 3))
    .nil))
      .nil)
    (.cons (.asg 3 (.op2 .sub (.v 3) (.v 5)))
    .nil))
      .nil)
    (.cons (.asg 2 (.op2 .add (.v 2) (.int 1)))
    .nil))))
    (.cons (.ret (.v 2))
    .nil))))
noncomputable def ir_hereAt : SL :=
  (.cons (.ret (.op2 .add (.int 1) (.op1 .sum (.frz (.comp (.v 1) (.op2 .ne (.v 0) (.word .gone)) 2 (.frz (.upt (.op1 (.fld .beside 0) (.v 0)) (.v 1))))))))
    .nil)
noncomputable def ir_rangeThere : SL :=
  (.cons (.ex (.call .splitThere (.cons (.v 0) (.cons (.op2 .sub (.v 1) (.int 1)) .nil))))
    (.cons (.asg 3 (.call .splitThere (.cons (.v 0) (.cons (.op2 .sub (.v 2) (.int 1)) .nil))))
    (.cons (.asg 4 (.call .splitThere (.cons (.v 0) (.cons (.op2 .sub (.v 1) (.int 1)) .nil))))
    (.cons (.whl (.and_ (.op2 .lt (.v 4) (.v 3)) (.op2 .eq (.op2 .idx (.op2 .idx (.op1 (.fld .beside 0) (.v 0)) (.v 4)) (.int 0)) (.word .new)))
      (.cons (.asg 4 (.op2 .add (.v 4) (.int 1)))
    .nil))
    (.cons (.ret (.tup (.cons (.v 4) (.cons (.v 3) .nil))))
    .nil)))))
noncomputable def ir_isUntouched : SL :=
  (.cons (.ret (.and_ (.op2 .lt (.v 1) (.v 2)) (.op2 .eq (.frz (.comp (.int 1) (.op2 .ne (.v 0) (.word .same)) 2 (.frz (.slc (.op1 (.fld .beside 0) (.v 0)) (.v 1) (.v 2))))) (.frz (.disp .nil)))))
    .nil)
noncomputable def ir_undoneInsert : SL :=
  (.cons (.asgT [4, 5] (.call .rangeThere (.cons (.v 0) (.cons (.op2 .idx (.v 1) (.int 1)) (.cons (.op2 .idx (.v 1) (.int 2)) .nil)))))
    (.cons (.asg 2 (.call .hereAt (.cons (.v 0) (.cons (.v 4) .nil))))
    (.cons (.asg 3 (.op2 .sub (.op2 .idx (.v 1) (.int 2)) (.op2 .idx (.v 1) (.int 1))))
    (.cons (.ite (.and_ (.call .isUntouched (.cons (.v 0) (.cons (.v 4) (.cons (.v 5) .nil)))) (.and_ (.op2 .le (.op1 (.fld .beside 1) (.v 0)) (.v 2)) (.op2 .le (.op2 .add (.v 2) (.v 3)) (.op1 (.fld .beside 2) (.v 0)))))
      (.cons (.setS (.op1 (.fld .beside 0) (.v 0)) (.v 4) (.v 5) (.frz (.disp .nil)))
    (.cons (.setF (.v 0) .beside 2 (.op2 .sub (.op1 (.fld .beside 2) (.v 0)) (.v 3)))
    (.cons (.ret (.tup (.cons (.word .insert) (.cons (.v 2) (.cons (.op2 .add (.v 2) (.v 3)) .nil)))))
    .nil)))
      .nil)
    (.cons (.setS (.op1 (.fld .beside 0) (.v 0)) (.v 4) (.v 5) (.frz (.comp (.frz (.disp (.cons (.word .new) (.cons (.v 1) .nil)))) (.op2 .ne (.v 0) (.word .gone)) 2 (.frz (.slc (.op1 (.fld .beside 0) (.v 0)) (.v 4) (.v 5))))))
    (.cons (.ret .none)
    .nil))))))
noncomputable def ir_undoneDelete : SL :=
  (.cons (.asg 2 (.call .splitThere (.cons (.v 0) (.cons (.op2 .sub (.op2 .idx (.v 1) (.int 1)) (.int 1)) .nil))))
    (.cons (.whl (.and_ (.op2 .lt (.v 2) (.op1 .len (.op1 (.fld .beside 0) (.v 0)))) (.op2 .eq (.op2 .idx (.op2 .idx (.op1 (.fld .beside 0) (.v 0)) (.v 2)) (.int 0)) (.word .new)))
      (.cons (.asg 2 (.op2 .add (.v 2) (.int 1)))
    .nil))
    (.cons (.asg 3 (.call .hereAt (.cons (.v 0) (.cons (.v 2) .nil))))
    (.cons (.asg 4 (.op1 .len (.op1 (.fld .piece 0) (.op2 .idx (.v 1) (.int 2)))))
    (.cons (.ite (.chain (.op1 (.fld .beside 1) (.v 0)) (.v 3) (.op1 (.fld .beside 2) (.v 0)))
      (.cons (.setS (.op1 (.fld .beside 0) (.v 0)) (.v 2) (.v 2) (.frz (.disp (.cons (.frz (.disp (.cons (.word .same) (.cons (.v 4) .nil)))) .nil))))
    (.cons (.setF (.v 0) .beside 2 (.op2 .add (.op1 (.fld .beside 2) (.v 0)) (.v 4)))
    (.cons (.ret (.tup (.cons (.word .delete) (.cons (.v 3) (.cons (.op2 .idx (.v 1) (.int 2)) (.cons (.op2 .idx (.v 1) (.int 3)) .nil))))))
    .nil)))
      .nil)
    (.cons (.setS (.op1 (.fld .beside 0) (.v 0)) (.v 2) (.v 2) (.frz (.disp (.cons (.frz (.disp (.cons (.word .gone) (.cons (.v 4) .nil)))) .nil))))
    (.cons (.ret .none)
    .nil)))))))
noncomputable def ir_undoneRow : SL :=
  (.cons (.ite (.op2 .eq (.op2 .idx (.v 1) (.int 0)) (.word .insert))
      (.cons (.ret (.call .undoneInsert (.cons (.v 0) (.cons (.v 1) .nil))))
    .nil)
      .nil)
    (.cons (.ite (.op2 .eq (.op2 .idx (.v 1) (.int 0)) (.word .delete))
      (.cons (.ret (.call .undoneDelete (.cons (.v 0) (.cons (.v 1) .nil))))
    .nil)
      .nil)
    (.cons (.ret (.ite (.op2 .eq (.op2 .idx (.v 1) (.int 0)) (.word .property)) .bad .none))
    .nil)))
noncomputable def ir_rowsInRegion : SL :=
  (.cons (.asg 4 (.new .beside .bes (.cons (.v 1) (.cons (.v 2) (.cons (.v 3) .nil)))))
    (.cons (.asg 5 (.thw .fnd (.disp .nil)))
    (.cons (.for_ [6] (.frz (.rev (.v 0)))
      (.cons (.ite (.op2 .eq (.v 6) (.glob .boundary))
      (.cons (.ite (.and_ (.op2 .gt (.op1 .len (.v 5)) (.int 0)) (.op2 .ne (.op2 .idx (.v 5) (.int (-1))) (.glob .boundary)))
      (.cons (.app (.v 5) (.glob .boundary))
    .nil)
      .nil)
    .nil)
      (.cons (.asg 7 (.call .undoneRow (.cons (.v 4) (.cons (.v 6) .nil))))
    (.cons (.ite (.op1 .notNone (.v 7))
      (.cons (.app (.v 5) (.v 7))
    .nil)
      .nil)
    .nil)))
    .nil))
    (.cons (.ret (.frz (.rev (.v 5))))
    .nil))))
noncomputable def ir_undInit : SL :=
  (.cons (.setF (.v 0) .undoing 0 .none)
    (.cons (.setF (.v 0) .undoing 1 .none)
    (.cons (.setF (.v 0) .undoing 2 .none)
    (.cons (.setF (.v 0) .undoing 3 (.thwD .eqd))
    .nil))))
noncomputable def ir_trimmedCount : SL :=
  (.cons (.ret (.op2 .add (.op1 (.fld .ulist 1) (.v 0)) (.call .aboveBoundaries (.cons (.op1 (.fld .ulist 0) (.v 0)) (.cons (.op1 .len (.op1 (.fld .ulist 0) (.v 0))) .nil)))))
    .nil)
noncomputable def ir_lastWasUndo : SL :=
  (.cons (.ret (.op2 .in_ (.call .trimmedCount (.cons (.v 1) .nil)) (.op1 (.fld .undoing 3) (.v 0))))
    .nil)
noncomputable def ir_dropPoints : SL :=
  (.cons (.asg 2 (.op2 .sub (.v 1) (.op1 (.fld .ulist 1) (.v 0))))
    (.cons (.setF (.v 0) .ulist 0 (.thw .rows (.cat (.frz (.upt (.op1 (.fld .ulist 0) (.v 0)) (.v 2))) (.frz (.comp (.v 0) (.op2 .ne (.op2 .idx (.v 0) (.int 0)) (.word .point)) 1 (.frz (.frm (.op1 (.fld .ulist 0) (.v 0)) (.v 2))))))))
    .nil))
noncomputable def ir_elderRows : SL :=
  (.cons (.asg 2 (.frz (.upt (.op1 (.fld .ulist 0) (.v 0)) (.op2 .max (.int 0) (.op2 .sub (.v 1) (.op1 (.fld .ulist 1) (.v 0)))))))
    (.cons (.ite (.op2 .eq (.call .aboveBoundaries (.cons (.v 2) (.cons (.op1 .len (.v 2)) .nil))) (.int 0))
      (.cons (.raise_ (.cons (.word .userError) (.cons (.frz (.disp (.cons (.word .noFurther) .nil))) .nil)))
    .nil)
      .nil)
    (.cons (.ret (.v 2))
    .nil)))
noncomputable def ir_isInRow : SL :=
  (.cons (.ite (.or_ (.op1 .not_ (.v 2)) (.op1 .isNone (.op1 (.fld .undoing 0) (.v 0))))
      (.cons (.ret (.bool false))
    .nil)
      .nil)
    (.cons (.ite (.or_ (.op2 .le (.op1 (.fld .undoing 0) (.v 0)) (.op1 (.fld .ulist 1) (.v 1))) (.op2 .eq (.call .trimmedCount (.cons (.v 1) .nil)) (.op1 (.fld .undoing 1) (.v 0))))
      (.cons (.ret (.bool true))
    .nil)
      .nil)
    (.cons (.ret (.call .lastWasUndo (.cons (.v 0) (.cons (.v 1) .nil))))
    .nil)))
noncomputable def ir_beginUndo : SL :=
  (.cons (.ite (.op1 .not_ (.op1 (.fld .ulist 2) (.v 1)))
      (.cons (.raise_ (.cons (.word .userError) (.cons (.frz (.disp (.cons (.word .noInfo) .nil))) .nil)))
    .nil)
      .nil)
    (.cons (.ex (.meth .ulBoundary (.v 1) .nil))
    (.cons (.ite (.op1 .not_ (.call .isInRow (.cons (.v 0) (.cons (.v 1) (.cons (.v 2) .nil)))))
      (.cons (.setF (.v 0) .undoing 0 (.call .trimmedCount (.cons (.v 1) .nil)))
    (.cons (.setF (.v 0) .undoing 2 .none)
    .nil))
      .nil)
    .nil)))
noncomputable def ir_endUndo : SL :=
  (.cons (.ex (.call .dropPoints (.cons (.v 1) (.cons (.v 2) .nil))))
    (.cons (.asg 4 (.call .trimmedCount (.cons (.v 1) .nil)))
    (.cons (.setF (.v 0) .undoing 1 (.ite (.op2 .le (.v 4) (.v 2)) (.v 4) .none))
    (.cons (.ite (.op2 .gt (.v 4) (.v 2))
      (.cons (.setD (.op1 (.fld .undoing 3) (.v 0)) (.v 4) (.v 3))
    .nil)
      .nil)
    (.cons (.ex (.meth .ulBoundary (.v 1) .nil))
    .nil)))))
noncomputable def ir_goOnBehindRedo : SL :=
  (.cons (.setF (.v 0) .undoing 2 .none)
    (.cons (.setF (.v 0) .undoing 0 (.op3 .get (.op1 (.fld .undoing 3) (.v 0)) (.call .trimmedCount (.cons (.v 1) .nil)) .none))
    (.cons (.ite (.op2 .eq (.op1 (.fld .undoing 0) (.v 0)) (.glob .inRegion))
      (.cons (.setF (.v 0) .undoing 0 .none)
    .nil)
      .nil)
    .nil)))
noncomputable def ir_undoRedo : SL :=
  (.cons (.asg 3 (.op1 (.fld .recording 0) (.op1 (.fld .buffer 14) (.v 1))))
    (.cons (.for_ [4] (.op1 .range (.op2 .max (.int 1) (.v 2)))
      (.cons (.asg 5 (.call .trimmedCount (.cons (.v 3) .nil)))
    (.cons (.ite (.op2 .nin (.v 5) (.op1 (.fld .undoing 3) (.v 0)))
      (.cons (.raise_ (.cons (.word .userError) (.cons (.frz (.disp (.cons (.word .noUndo) .nil))) .nil)))
    .nil)
      .nil)
    (.cons (.ite (.op2 .lt (.v 4) (.v 2))
      (.cons (.asgW [7, 8] (.cons (.frz (.upt (.op1 (.fld .ulist 0) (.v 3)) (.op2 .sub (.v 5) (.op1 (.fld .ulist 1) (.v 3))))) (.cons (.op1 (.fld .ulist 4) (.v 3)) .nil)))
    (.cons (.ex (.meth .ulBoundary (.v 3) .nil))
    (.cons (.asg 6 (.call .undoGroup (.cons (.v 1) (.cons (.v 7) (.cons (.op1 .len (.v 7)) .nil)))))
    (.cons (.dpop (.op1 (.fld .undoing 3) (.v 0)) (.v 5))
    (.cons (.setF (.v 3) .ulist 0 (.thw .rows (.upt (.op1 (.fld .ulist 0) (.v 3)) (.v 6))))
    (.cons (.setF (.v 3) .ulist 4 (.v 8))
    .nil))))))
      .nil)
    (.cons (.ex (.call .goOnBehindRedo (.cons (.v 0) (.cons (.v 3) .nil))))
    .nil)))))
    (.cons (.ret (.word .redo))
    .nil)))
noncomputable def ir_regionMore : SL :=
  (.cons (.ite (.op2 .eq (.call .aboveBoundaries (.cons (.op1 (.fld .undoing 2) (.v 0)) (.cons (.op1 .len (.op1 (.fld .undoing 2) (.v 0))) .nil))) (.int 0))
      (.cons (.raise_ (.cons (.word .userError) (.cons (.frz (.disp (.cons (.word .noFurtherRegion) .nil))) .nil)))
    .nil)
      .nil)
    (.cons (.asg 4 (.meth .ulCount (.v 2) .nil))
    (.cons (.asg 5 (.op1 .len (.op1 (.fld .undoing 2) (.v 0))))
    (.cons (.for_ [6] (.op1 .range (.v 3))
      (.cons (.asg 5 (.call .undoGroup (.cons (.v 1) (.cons (.op1 (.fld .undoing 2) (.v 0)) (.cons (.v 5) .nil)))))
    .nil))
    (.cons (.setF (.v 0) .undoing 2 (.frz (.upt (.op1 (.fld .undoing 2) (.v 0)) (.v 5))))
    (.cons (.ex (.call .endUndo (.cons (.v 0) (.cons (.v 2) (.cons (.v 4) (.cons (.glob .inRegion) .nil))))))
    (.cons (.ret (.word .undoInRegion))
    .nil)))))))
noncomputable def ir_undoInRegion : SL :=
  (.cons (.asg 6 (.op1 (.fld .recording 0) (.op1 (.fld .buffer 14) (.v 1))))
    (.cons (.asg 7 (.call .isInRow (.cons (.v 0) (.cons (.v 6) (.cons (.v 5) .nil)))))
    (.cons (.ex (.call .beginUndo (.cons (.v 0) (.cons (.v 6) (.cons (.v 5) .nil)))))
    (.cons (.ite (.and_ (.v 7) (.op1 .isNone (.op1 (.fld .undoing 2) (.v 0))))
      (.cons .bad
    .nil)
      .nil)
    (.cons (.ite (.op1 .not_ (.v 7))
      (.cons (.asg 8 (.call .elderRows (.cons (.v 6) (.cons (.op1 (.fld .undoing 0) (.v 0)) .nil))))
    (.cons (.setF (.v 0) .undoing 2 (.call .rowsInRegion (.cons (.v 8) (.cons (.meth .bufSize (.v 1) .nil) (.cons (.op2 .min (.v 2) (.v 3)) (.cons (.op2 .max (.v 2) (.v 3)) .nil))))))
    .nil))
      .nil)
    (.cons (.ret (.call .regionMore (.cons (.v 0) (.cons (.v 1) (.cons (.v 6) (.cons (.v 4) .nil))))))
    .nil))))))
noncomputable def ir_gapInit : SL :=
  (.cons (.setF (.v 0) .gap 0 (.v 2))
    (.cons (.setF (.v 0) .gap 1 (.thw .cells (.cat (.frz (.copy (.v 1))) (.frz (.rep (.frz (.disp (.cons (.int 0) .nil))) (.v 2))))))
    (.cons (.setF (.v 0) .gap 2 (.op1 .len (.v 1)))
    (.cons (.setF (.v 0) .gap 3 (.op2 .add (.op1 .len (.v 1)) (.v 2)))
    .nil))))
noncomputable def ir_gapSize : SL :=
  (.cons (.ret (.op2 .add (.op2 .sub (.op1 .len (.op1 (.fld .gap 1) (.v 0))) (.op1 (.fld .gap 3) (.v 0))) (.op1 (.fld .gap 2) (.v 0))))
    .nil)
noncomputable def ir_gapCodes : SL :=
  (.cons (.asg 3 (.op2 .sub (.op1 (.fld .gap 3) (.v 0)) (.op1 (.fld .gap 2) (.v 0))))
    (.cons (.ite (.op2 .le (.v 2) (.op1 (.fld .gap 2) (.v 0)))
      (.cons (.ret (.frz (.slc (.op1 (.fld .gap 1) (.v 0)) (.v 1) (.v 2))))
    .nil)
      .nil)
    (.cons (.ite (.op2 .ge (.v 1) (.op1 (.fld .gap 2) (.v 0)))
      (.cons (.ret (.frz (.slc (.op1 (.fld .gap 1) (.v 0)) (.op2 .add (.v 1) (.v 3)) (.op2 .add (.v 2) (.v 3)))))
    .nil)
      .nil)
    (.cons (.ret (.frz (.cat (.frz (.slc (.op1 (.fld .gap 1) (.v 0)) (.v 1) (.op1 (.fld .gap 2) (.v 0)))) (.frz (.slc (.op1 (.fld .gap 1) (.v 0)) (.op1 (.fld .gap 3) (.v 0)) (.op2 .add (.v 2) (.v 3)))))))
    .nil))))
noncomputable def ir_gapMoveGap : SL :=
  (.cons (.ite (.op2 .lt (.v 1) (.op1 (.fld .gap 2) (.v 0)))
      (.cons (.asg 2 (.frz (.slc (.op1 (.fld .gap 1) (.v 0)) (.v 1) (.op1 (.fld .gap 2) (.v 0)))))
    (.cons (.setS (.op1 (.fld .gap 1) (.v 0)) (.op2 .sub (.op1 (.fld .gap 3) (.v 0)) (.op1 .len (.v 2))) (.op1 (.fld .gap 3) (.v 0)) (.v 2))
    (.cons (.setF (.v 0) .gap 3 (.op2 .sub (.op1 (.fld .gap 3) (.v 0)) (.op1 .len (.v 2))))
    .nil)))
      (.cons (.asg 2 (.frz (.slc (.op1 (.fld .gap 1) (.v 0)) (.op1 (.fld .gap 3) (.v 0)) (.op2 .sub (.op2 .add (.op1 (.fld .gap 3) (.v 0)) (.v 1)) (.op1 (.fld .gap 2) (.v 0))))))
    (.cons (.setS (.op1 (.fld .gap 1) (.v 0)) (.op1 (.fld .gap 2) (.v 0)) (.op2 .add (.op1 (.fld .gap 2) (.v 0)) (.op1 .len (.v 2))) (.v 2))
    (.cons (.setF (.v 0) .gap 3 (.op2 .add (.op1 (.fld .gap 3) (.v 0)) (.op1 .len (.v 2))))
    .nil))))
    (.cons (.setF (.v 0) .gap 2 (.v 1))
    .nil))
noncomputable def ir_gapWidenGap : SL :=
  (.cons (.asg 2 (.op2 .sub (.v 1) (.op2 .sub (.op1 (.fld .gap 3) (.v 0)) (.op1 (.fld .gap 2) (.v 0)))))
    (.cons (.ite (.op2 .gt (.v 2) (.int 0))
      (.cons (.setS (.op1 (.fld .gap 1) (.v 0)) (.op1 (.fld .gap 3) (.v 0)) (.op1 (.fld .gap 3) (.v 0)) (.frz (.rep (.frz (.disp (.cons (.int 0) .nil))) (.op2 .add (.v 2) (.op1 (.fld .gap 0) (.v 0))))))
    (.cons (.setF (.v 0) .gap 3 (.op2 .add (.op2 .add (.op1 (.fld .gap 3) (.v 0)) (.v 2)) (.op1 (.fld .gap 0) (.v 0))))
    .nil))
      .nil)
    .nil))
noncomputable def ir_gapInsert : SL :=
  (.cons (.ex (.meth .gapWidenGap (.v 0) (.cons (.op1 .len (.v 2)) .nil)))
    (.cons (.ex (.meth .gapMoveGap (.v 0) (.cons (.v 1) .nil)))
    (.cons (.setS (.op1 (.fld .gap 1) (.v 0)) (.v 1) (.op2 .add (.v 1) (.op1 .len (.v 2))) (.v 2))
    (.cons (.setF (.v 0) .gap 2 (.op2 .add (.v 1) (.op1 .len (.v 2))))
    .nil))))
noncomputable def ir_gapDelete : SL :=
  (.cons (.asg 3 (.meth .gapCodes (.v 0) (.cons (.v 1) (.cons (.v 2) .nil))))
    (.cons (.ite (.op2 .lt (.v 2) (.op1 (.fld .gap 2) (.v 0)))
      (.cons (.ex (.meth .gapMoveGap (.v 0) (.cons (.v 2) .nil)))
    .nil)
      .nil)
    (.cons (.ite (.op2 .gt (.v 1) (.op1 (.fld .gap 2) (.v 0)))
      (.cons (.ex (.meth .gapMoveGap (.v 0) (.cons (.v 1) .nil)))
    .nil)
      .nil)
    (.cons (.setF (.v 0) .gap 3 (.op2 .sub (.op2 .add (.op1 (.fld .gap 3) (.v 0)) (.v 2)) (.op1 (.fld .gap 2) (.v 0))))
    (.cons (.setF (.v 0) .gap 2 (.v 1))
    (.cons (.ret (.v 3))
    .nil))))))
noncomputable def ir_mkInit : SL :=
  (.cons (.setF (.v 0) .markers 0 .edict)
    .nil)
noncomputable def ir_mkNumbers : SL :=
  (.cons (.ret (.op1 .sorted (.op1 (.fld .markers 0) (.v 0))))
    .nil)
noncomputable def ir_mkWithin : SL :=
  (.cons (.asg 3 (.frz (.disp .nil)))
    (.cons (.for_ [4] (.meth .mkNumbers (.v 0) .nil)
      (.cons .bad
    .nil))
    (.cons (.ret (.v 3))
    .nil)))
noncomputable def ir_mkInserted : SL :=
  (.cons (.for_ [4] (.meth .mkNumbers (.v 0) .nil)
      (.cons (.asg 5 (.op2 .idx (.op1 (.fld .markers 0) (.v 0)) (.v 4)))
    (.cons .bad
    .nil)))
    .nil)
noncomputable def ir_mkDeleted : SL :=
  (.cons (.for_ [3] (.meth .mkNumbers (.v 0) .nil)
      (.cons (.asg 4 (.op2 .idx (.op1 (.fld .markers 0) (.v 0)) (.v 3)))
    (.cons .bad
    .nil)))
    .nil)
noncomputable def ir_bufInit : SL :=
  (.cons (.setF (.v 0) .buffer 0 (.v 1))
    (.cons (.setF (.v 0) .buffer 1 (.v 2))
    (.cons (.setF (.v 0) .buffer 2 (.new .gap .text (.cons (.frz (.disp .nil)) (.cons (.v 3) .nil))))
    (.cons (.setF (.v 0) .buffer 3 (.newF .markers .nil))
    (.cons (.setF (.v 0) .buffer 4 (.int 1))
    (.cons (.setF (.v 0) .buffer 5 (.int 1))
    (.cons (.setF (.v 0) .buffer 6 (.int 1))
    (.cons (.setF (.v 0) .buffer 7 .none)
    (.cons (.setF (.v 0) .buffer 8 (.bool true))
    (.cons (.setF (.v 0) .buffer 9 (.bool false))
    (.cons (.setF (.v 0) .buffer 10 (.int 1))
    (.cons (.setF (.v 0) .buffer 11 (.int 1))
    (.cons (.setF (.v 0) .buffer 12 (.int 1))
    (.cons (.setF (.v 0) .buffer 13 (.frz (.disp .nil)))
    (.cons (.setF (.v 0) .buffer 14 .none)
    (.cons (.setF (.v 0) .buffer 15 .none)
    (.cons (.setF (.v 0) .buffer 16 .none)
    (.cons (.setF (.v 0) .buffer 17 .none)
    (.cons (.setF (.v 0) .buffer 18 .none)
    (.cons (.setF (.v 0) .buffer 19 .none)
    .nil))))))))))))))))))))
noncomputable def ir_bufSize : SL :=
  (.cons (.ret (.meth .gapSize (.op1 (.fld .buffer 2) (.v 0)) .nil))
    .nil)
noncomputable def ir_bufCodes : SL :=
  (.cons (.ret (.meth .gapCodes (.op1 (.fld .buffer 2) (.v 0)) (.cons (.op2 .sub (.v 1) (.int 1)) (.cons (.op2 .sub (.v 2) (.int 1)) .nil))))
    .nil)
noncomputable def ir_bufGoto : SL :=
  (.cons (.setF (.v 0) .buffer 4 (.op2 .min (.op2 .max (.v 1) (.op1 (.fld .buffer 5) (.v 0))) (.op1 (.fld .buffer 6) (.v 0))))
    (.cons (.ret (.op1 (.fld .buffer 4) (.v 0)))
    .nil))
noncomputable def ir_bufIsModified : SL :=
  (.cons (.ret (.op2 .lt (.op1 (.fld .buffer 12) (.v 0)) (.op1 (.fld .buffer 10) (.v 0))))
    .nil)
noncomputable def ir_bufTouch : SL :=
  (.cons (.setF (.v 0) .buffer 10 (.op2 .add (.op1 (.fld .buffer 10) (.v 0)) (.int 1)))
    (.cons (.ite (.v 1)
      (.cons (.setF (.v 0) .buffer 11 (.op1 (.fld .buffer 10) (.v 0)))
    .nil)
      .nil)
    .nil))
noncomputable def ir_pieceInit : SL :=
  (.cons (.setF (.v 0) .piece 0 (.v 1))
    (.cons (.setF (.v 0) .piece 1 (.v 2))
    .nil))
noncomputable def ir_recInit : SL :=
  (.cons (.setF (.v 0) .recording 0 (.new .ulist .ul .nil))
    .nil)
noncomputable def ir_recTextComes : SL :=
  (.cons (.ex (.meth .ulNoteInsert (.op1 (.fld .recording 0) (.v 0)) (.cons (.v 2) (.cons (.v 3) (.cons (.op1 (.fld .buffer 4) (.v 1)) (.cons (.meth .bufIsModified (.v 1) .nil) (.cons (.op1 (.fld .buffer 12) (.v 1)) .nil)))))))
    .nil)
noncomputable def ir_recTextGoes : SL :=
  (.cons (.ite (.op1 .not_ (.op1 (.fld .ulist 2) (.op1 (.fld .recording 0) (.v 0))))
      (.cons (.ret .none)
    .nil)
      .nil)
    (.cons (.asg 4 (.ite (.op1 .isNone (.op1 (.fld .buffer 15) (.v 1))) (.frz (.disp .nil)) .bad))
    (.cons (.asg 5 (.frz (.comp .bad (.op2 .gt (.op1 .len (.v 2)) (.int 0)) 3 (.v 4))))
    (.cons (.asg 6 (.frz (.disp .nil)))
    (.cons (.for_ [7] (.meth .mkWithin (.op1 (.fld .buffer 3) (.v 1)) (.cons (.v 2) (.cons (.v 3) .nil)))
      (.cons .bad
    .nil))
    (.cons (.asg 8 (.newF .piece (.cons (.meth .bufCodes (.v 1) (.cons (.v 2) (.cons (.v 3) .nil))) (.cons (.v 5) .nil))))
    (.cons (.ex (.meth .ulNoteDelete (.op1 (.fld .recording 0) (.v 0)) (.cons (.v 2) (.cons (.v 8) (.cons (.op1 (.fld .buffer 4) (.v 1)) (.cons (.v 6) (.cons (.meth .bufIsModified (.v 1) .nil) (.cons (.op1 (.fld .buffer 12) (.v 1)) .nil))))))))
    .nil)))))))
noncomputable def ir_lawDeck : SL :=
  (.cons (.asg 1 (.frz (.comp (.op1 .abs (.v 0)) (.bool true) 1 (.frz (.upt (.v 0) (.int 20))))))
    (.cons (.ret (.thw .deck (.disp (.cons (.thw .bigs (.comp (.v 0) (.op2 .ge (.v 0) (.int 1000000000000000000)) 1 (.v 1))) (.cons (.frz (.cat (.v 1) (.frz (.disp (.cons (.op2 .add (.int 417) (.op1 .len (.v 1))) .nil))))) (.cons (.int 0) .nil))))))
    .nil))
noncomputable def ir_lawDraw : SL :=
  (.cons (.ite (.op2 .ne (.op2 .idx (.v 0) (.int 0)) (.frz (.disp .nil)))
      (.cons (.asg 3 (.op2 .idx (.op2 .idx (.v 0) (.int 0)) (.int 0)))
    (.cons (.setI (.op2 .idx (.v 0) (.int 0)) (.int 0) (.op2 .fdiv (.v 3) (.v 1)))
    (.cons (.ite (.op2 .eq (.op2 .idx (.op2 .idx (.v 0) (.int 0)) (.int 0)) (.int 0))
      (.cons (.pop0 (.op2 .idx (.v 0) (.int 0)))
    .nil)
      .nil)
    (.cons (.ret (.op2 .mod (.v 3) (.v 1)))
    .nil))))
      .nil)
    (.cons (.setI (.v 0) (.int 2) (.op2 .add (.op2 .idx (.v 0) (.int 2)) (.int 1)))
    (.cons (.asg 2 (.op2 .mod (.op2 .add (.op2 .idx (.op2 .idx (.v 0) (.int 1)) (.op2 .mod (.op2 .idx (.v 0) (.int 2)) (.op1 .len (.op2 .idx (.v 0) (.int 1))))) (.op2 .mul (.int 1640531527) (.op2 .idx (.v 0) (.int 2)))) (.int 4294966297)))
    (.cons (.asg 2 (.op2 .mod (.op2 .add (.op2 .mul (.v 2) (.v 2)) (.op2 .mul (.int 122949823) (.op2 .idx (.v 0) (.int 2)))) (.int 4294966237)))
    (.cons (.ret (.op2 .mod (.op2 .fdiv (.op2 .mod (.op2 .mul (.v 2) (.v 2)) (.int 4294966187)) (.int 1024)) (.v 1)))
    .nil)))))
noncomputable def ir_lawParts : SL :=
  (.cons (.asg 1 (.meth .bufCodes (.v 0) (.cons (.int 1) (.cons (.op2 .add (.meth .bufSize (.v 0) .nil) (.int 1)) .nil))))
    (.cons (.ret (.tup (.cons (.frz (.upt (.v 1) (.op2 .index (.v 1) (.int 7)))) (.cons (.frz (.frm (.v 1) (.op2 .add (.op2 .index (.v 1) (.int 7)) (.int 1)))) .nil))))
    .nil))
noncomputable def ir_lawChanged : SL :=
  (.cons (.asgT [6, 7] (.call .lawParts (.cons (.v 1) .nil)))
    (.cons (.asg 3 (.op2 .eq (.call .lawDraw (.cons (.v 0) (.cons (.int 2) .nil))) (.int 0)))
    (.cons (.asgT [8, 9] (.ite (.v 3) (.tup (.cons (.int 1) (.cons (.v 6) .nil))) (.tup (.cons (.op2 .add (.op1 .len (.v 6)) (.int 2)) (.cons (.v 7) .nil)))))
    (.cons (.asg 4 (.call .lawDraw (.cons (.v 0) (.cons (.op2 .add (.op1 .len (.v 9)) (.int 1)) .nil))))
    (.cons (.asg 5 (.op2 .min (.call .lawDraw (.cons (.v 0) (.cons (.int 4) .nil))) (.op2 .sub (.op1 .len (.v 9)) (.v 4))))
    (.cons (.ite (.op2 .lt (.v 5) (.int 1))
      (.cons (.ex (.call .insertAt (.cons (.v 1) (.cons (.op2 .add (.v 8) (.v 4)) (.cons (.frz (.upt (.frz (.disp (.cons (.v 2) (.cons (.op2 .add (.v 2) (.int 1)) (.cons (.op2 .add (.v 2) (.int 2)) .nil))))) (.op2 .add (.int 1) (.call .lawDraw (.cons (.v 0) (.cons (.int 3) .nil)))))) .nil)))))
    .nil)
      (.cons (.ex (.call .delete (.cons (.v 1) (.cons (.op2 .add (.v 8) (.v 4)) (.cons (.op2 .add (.op2 .add (.v 8) (.v 4)) (.v 5)) .nil)))))
    .nil))
    .nil))))))
noncomputable def ir_lawUndone : SL :=
  (.cons (.asg 3 (.thw .met (.disp .nil)))
    (.cons (.whl (.op2 .lt (.op1 .len (.v 3)) (.int 30))
      (.cons (.asgT [4, 5] (.call .lawParts (.cons (.v 0) .nil)))
    (.cons (.asgT [6, 7] (.ite (.v 2) (.tup (.cons (.int 1) (.cons (.op2 .add (.op1 .len (.v 4)) (.int 1)) .nil))) (.tup (.cons (.op2 .add (.op1 .len (.v 4)) (.int 2)) (.cons (.op2 .add (.meth .bufSize (.v 0) .nil) (.int 1)) .nil)))))
    (.cons (.try_ (.call .undoInRegion (.cons (.v 1) (.cons (.v 0) (.cons (.v 6) (.cons (.v 7) (.cons (.int 1) (.cons (.op2 .ne (.v 3) (.frz (.disp .nil))) .nil))))))) 3)
    (.cons (.app (.v 3) (.call .lawParts (.cons (.v 0) .nil)))
    .nil)))))
    (.cons (.ret (.v 3))
    .nil)))
noncomputable def ir_law : SL :=
  (.cons (.asgW [6, 7, 8] (.cons (.call .lawDeck (.cons (.v 0) .nil)) (.cons (.new .buffer .buf (.cons (.int 1) (.cons (.word .a) .nil))) (.cons (.new .undoing .und .nil) .nil))))
    (.cons (.asg 1 (.frz (.disp (.cons (.frz (.comp (.op2 .add (.int 100) (.v 0)) (.bool true) 1 (.op1 .range (.op2 .add (.int 1) (.call .lawDraw (.cons (.v 6) (.cons (.int 4) .nil))))))) (.cons (.frz (.comp (.op2 .add (.int 110) (.v 0)) (.bool true) 1 (.op1 .range (.op2 .add (.int 1) (.call .lawDraw (.cons (.v 6) (.cons (.int 4) .nil))))))) .nil)))))
    (.cons (.ex (.call .insertAt (.cons (.v 7) (.cons (.int 1) (.cons (.frz (.cat (.frz (.cat (.op2 .idx (.v 1) (.int 0)) (.frz (.disp (.cons (.int 7) .nil))))) (.op2 .idx (.v 1) (.int 1)))) .nil)))))
    (.cons (.setF (.v 7) .buffer 14 (.newF .recording .nil))
    (.cons (.for_ [2] (.op1 .range (.op2 .add (.int 3) (.call .lawDraw (.cons (.v 6) (.cons (.int 5) .nil)))))
      (.cons (.for_ [9] (.op1 .range (.op2 .add (.int 1) (.call .lawDraw (.cons (.v 6) (.cons (.int 2) .nil)))))
      (.cons (.ex (.call .lawChanged (.cons (.v 6) (.cons (.v 7) (.cons (.op2 .add (.op2 .add (.op2 .mul (.int 10) (.v 2)) (.int 120)) (.op2 .mul (.int 5) (.v 9))) .nil)))))
    .nil))
    (.cons (.ex (.meth .ulBoundary (.op1 (.fld .recording 0) (.op1 (.fld .buffer 14) (.v 7))) .nil))
    .nil)))
    (.cons (.asgW [10, 11] (.cons (.call .lawParts (.cons (.v 7) .nil)) (.cons (.op2 .eq (.call .lawDraw (.cons (.v 6) (.cons (.int 2) .nil))) (.int 0)) .nil)))
    (.cons (.asg 3 (.frz (.cat (.frz (.disp (.cons (.v 10) .nil))) (.call .lawUndone (.cons (.v 7) (.cons (.v 8) (.cons (.v 11) .nil)))))))
    (.cons (.asg 4 (.ite (.v 11) (.tup (.cons (.op2 .idx (.v 1) (.int 0)) (.cons (.op2 .idx (.v 10) (.int 1)) .nil))) (.tup (.cons (.op2 .idx (.v 10) (.int 0)) (.cons (.op2 .idx (.v 1) (.int 1)) .nil)))))
    (.cons (.ite (.op2 .ne (.tup (.cons (.frz (.copy (.op2 .idx (.op2 .idx (.v 3) (.int (-1))) (.int 0)))) (.cons (.frz (.copy (.op2 .idx (.op2 .idx (.v 3) (.int (-1))) (.int 1)))) .nil))) (.v 4))
      (.cons (.ret (.bool false))
    .nil)
      .nil)
    (.cons (.for_ [5] (.op3 .range (.op2 .sub (.op1 .len (.v 3)) (.int 2)) (.int (-1)) (.int (-1)))
      (.cons (.ex (.call .undoRedo (.cons (.v 8) (.cons (.v 7) (.cons (.int 1) .nil)))))
    (.cons (.ite (.op2 .ne (.call .lawParts (.cons (.v 7) .nil)) (.op2 .idx (.v 3) (.v 5)))
      (.cons (.ret (.bool false))
    .nil)
      .nil)
    .nil)))
    (.cons (.ex (.call .lawUndone (.cons (.v 7) (.cons (.v 8) (.cons (.op1 .not_ (.v 11)) .nil)))))
    (.cons (.asgT [12, 13] (.call .lawParts (.cons (.v 7) .nil)))
    (.cons (.ret (.op2 .eq (.frz (.disp (.cons (.v 12) (.cons (.v 13) .nil)))) (.ite (.v 11) (.frz (.disp (.cons (.op2 .idx (.v 10) (.int 0)) (.cons (.op2 .idx (.v 1) (.int 1)) .nil)))) (.frz (.disp (.cons (.op2 .idx (.v 1) (.int 0)) (.cons (.op2 .idx (.v 10) (.int 1)) .nil)))))))
    .nil)))))))))))))
noncomputable def defTab : List Def := [
  ⟨1, ["buffer"], [], ir_needWritable⟩,
  ⟨2, ["buffer", "growth"], [], ir_needRoom⟩,
  ⟨3, ["buffer", "start", "end", "low", "high"], [], ir_reached⟩,
  ⟨3, ["buffer", "start", "end", "listener"], [], ir_tellAhead⟩,
  ⟨4, ["buffer", "start", "end", "old_length", "listener"], [], ir_tellBehind⟩,
  ⟨3, ["buffer", "start", "end", "gone"], [], ir_textOut⟩,
  ⟨3, ["buffer", "place", "codes"], [], ir_textIn⟩,
  ⟨3, ["buffer", "start", "end"], [], ir_hungOut⟩,
  ⟨4, ["buffer", "place", "many", "before_markers"], [], ir_hungIn⟩,
  ⟨5, ["buffer", "place", "codes", "before_markers", "is_point_behind"], [], ir_putIn⟩,
  ⟨4, ["buffer", "place", "codes", "before_markers"], [.bool false], ir_insertAt⟩,
  ⟨3, ["buffer", "codes", "before_markers"], [.bool false], ir_insert⟩,
  ⟨3, ["buffer", "start", "end", "gone", "low", "high"], [], ir_delete⟩,
  ⟨2, ["buffer", "piece", "start", "rows"], [], ir_insertPiece⟩,
  ⟨3, ["buffer", "start", "end"], [], ir_needVisible⟩,
  ⟨2, ["rows", "at", "found"], [], ir_markersAhead⟩,
  ⟨2, ["buffer", "row"], [], ir_undoInsert⟩,
  ⟨3, ["buffer", "row", "marker_rows", "valid", "word", "marker", "distance"], [], ir_undoDelete⟩,
  ⟨3, ["buffer", "rows", "at", "row", "marker_rows"], [], ir_undoRow⟩,
  ⟨2, ["rows", "at"], [], ir_aboveBoundaries⟩,
  ⟨3, ["buffer", "rows", "at"], [], ir_undoGroup⟩,
  ⟨2, ["beside", "offset", "at", "left", "word", "many"], [], ir_splitThere⟩,
  ⟨2, ["beside", "at"], [], ir_hereAt⟩,
  ⟨3, ["beside", "start", "end", "last", "first"], [], ir_rangeThere⟩,
  ⟨3, ["beside", "first", "last"], [], ir_isUntouched⟩,
  ⟨2, ["beside", "row", "place", "many", "first", "last"], [], ir_undoneInsert⟩,
  ⟨2, ["beside", "row", "at", "place", "many"], [], ir_undoneDelete⟩,
  ⟨2, ["beside", "row"], [], ir_undoneRow⟩,
  ⟨4, ["rows", "size", "start", "end", "beside", "found", "row", "own"], [], ir_rowsInRegion⟩,
  ⟨1, ["history"], [], ir_trimmedCount⟩,
  ⟨2, ["undoing", "history"], [], ir_lastWasUndo⟩,
  ⟨2, ["history", "first", "at"], [], ir_dropPoints⟩,
  ⟨2, ["history", "count", "rows"], [], ir_elderRows⟩,
  ⟨3, ["undoing", "history", "is_chained"], [], ir_isInRow⟩,
  ⟨3, ["undoing", "history", "is_chained"], [], ir_beginUndo⟩,
  ⟨4, ["undoing", "history", "first", "back_to", "behind"], [], ir_endUndo⟩,
  ⟨2, ["undoing", "history"], [], ir_goOnBehindRedo⟩,
  ⟨3, ["undoing", "buffer", "count", "own", "turn", "behind", "at", "rows", "noted"], [], ir_undoRedo⟩,
  ⟨4, ["undoing", "buffer", "history", "count", "first", "at", "turn"], [], ir_regionMore⟩,
  ⟨6, ["undoing", "buffer", "start", "end", "count", "is_chained", "own", "is_on", "rows"], [], ir_undoInRegion⟩,
  ⟨1, ["script", "cells"], [], ir_lawDeck⟩,
  ⟨2, ["deck", "many", "mixed", "rest"], [], ir_lawDraw⟩,
  ⟨1, ["buffer", "codes"], [], ir_lawParts⟩,
  ⟨3, ["deck", "buffer", "fresh", "is_left", "start", "many", "left", "right", "base", "own"], [], ir_lawChanged⟩,
  ⟨3, ["buffer", "undoing", "is_left", "found", "left", "right", "start", "end"], [], ir_lawUndone⟩,
  ⟨1, ["script", "first", "turn", "met", "due", "place", "deck", "buffer", "undoing", "the_again", "last", "is_left", "left", "right"], [], ir_law⟩,
  ⟨1, ["self"], [], ir_ulInit⟩,
  ⟨1, ["self"], [], ir_ulCount⟩,
  ⟨1, ["self"], [], ir_ulIsAtBoundary⟩,
  ⟨1, ["self"], [], ir_ulBoundary⟩,
  ⟨3, ["self", "is_modified", "tick"], [], ir_ulNoteState⟩,
  ⟨4, ["self", "start", "is_modified", "tick", "is_first"], [], ir_ulNoteBegin⟩,
  ⟨6, ["self", "start", "many", "point", "is_modified", "tick", "last"], [], ir_ulNoteInsert⟩,
  ⟨7, ["self", "start", "piece", "point", "markers", "is_modified", "tick", "marker", "distance"], [], ir_ulNoteDelete⟩,
  ⟨1, ["self"], [], ir_undInit⟩,
  ⟨4, ["self", "size", "start", "end"], [], ir_besInit⟩,
  ⟨3, ["self", "codes", "room"], [], ir_gapInit⟩,
  ⟨1, ["self"], [], ir_gapSize⟩,
  ⟨3, ["self", "start", "end", "shift"], [], ir_gapCodes⟩,
  ⟨2, ["self", "at", "moved"], [], ir_gapMoveGap⟩,
  ⟨2, ["self", "wanted", "lack"], [], ir_gapWidenGap⟩,
  ⟨3, ["self", "at", "codes"], [], ir_gapInsert⟩,
  ⟨3, ["self", "start", "end", "gone"], [], ir_gapDelete⟩,
  ⟨1, ["self"], [], ir_mkInit⟩,
  ⟨1, ["self"], [], ir_mkNumbers⟩,
  ⟨3, ["self", "start", "end", "found", "number"], [], ir_mkWithin⟩,
  ⟨4, ["self", "start", "end", "is_before", "number", "marker"], [], ir_mkInserted⟩,
  ⟨3, ["self", "start", "end", "number", "marker"], [], ir_mkDeleted⟩,
  ⟨4, ["self", "number", "name", "room"], [.int 8], ir_bufInit⟩,
  ⟨1, ["self"], [], ir_bufSize⟩,
  ⟨3, ["self", "start", "end"], [], ir_bufCodes⟩,
  ⟨2, ["self", "place"], [], ir_bufGoto⟩,
  ⟨1, ["self"], [], ir_bufIsModified⟩,
  ⟨2, ["self", "are_codes"], [], ir_bufTouch⟩,
  ⟨3, ["self", "codes", "runs"], [], ir_pieceInit⟩,
  ⟨1, ["self"], [], ir_recInit⟩,
  ⟨4, ["self", "buffer", "start", "many"], [], ir_recTextComes⟩,
  ⟨4, ["self", "buffer", "start", "end", "rows", "runs", "markers", "marker", "piece"], [], ir_recTextGoes⟩]
noncomputable def defs (f : Fn) : Def := (defTab[f.i.1]?).getD ⟨0, [], [], .nil⟩
end Mine
set_option backward.match.sparseCases false
namespace Mine
theorem optP_iff {α : Type} {o : Option α} {Q : α → Prop} : optP o Q ↔ ∃ x, o = some x ∧ Q x := by
  cases o with
  | none => simp [optP]
  | some x => simp [optP]
theorem optP_of {α : Type} {o : Option α} {Q : α → Prop} {x : α} (h : o = some x) (q : Q x) : optP o Q := by rw [h]; exact q
theorem evB {α β : Type} {o : Option α} {f : α → Option β} {b : β} {P : Prop} (h : o.bind f = some b) (k : ∀ a, o = some a → f a = some b → P) : P := by
  cases o with
  | none => cases h
  | some a => exact k a rfl h
theorem evM {α β : Type} {o : Option α} {f : α → β} {b : β} {P : Prop} (h : o.map f = some b) (k : ∀ a, o = some a → f a = b → P) : P := by
  cases o with
  | none => cases h
  | some a => exact k a rfl (Option.some.inj h)
theorem evI {c : Prop} [Decidable c] {α : Type} {x y : α} {P : Prop} (h : (if c then some x else none) = some y) (k : c → x = y → P) : P := by
  by_cases q : c
  · rw [if_pos q] at h; exact k q (Option.some.inj h)
  · rw [if_neg q] at h; cases h
theorem boolP_of {v : V} {b : Bool} {Q : Bool → Prop} (h : v = .bool b) (q : Q b) : boolP v Q := by rw [h]; exact q
section
variable {C : CallT} {X : St → Prop} {r : Loc} {H : St}
theorem noS {α : Type} {x : α} (h : Option.none = some x) : False := nomatch h
theorem evS {H : St} {Q : V → St → Prop} {x y : V} (h : some y = some x) (q : Q x H) : Q y H := Option.some.inj h ▸ q
mutual
theorem evP_wp {Q : V → St → Prop} : ∀ (e : E) {x : V}, evP H r e = some x → Q x H → wpE C X r e H Q
  | .v i, x, h, q => optP_of h q
  | .none, x, h, q => evS h q
  | .bool b, x, h, q => evS h q
  | .int i, x, h, q => evS h q
  | .word w, x, h, q => evS h q
  | .glob g, x, h, q => evS h q
  | .op1 o a, x, h, q => evB h fun y hy h => evP_wp a hy (optP_of h q)
  | .op2 o a b, x, h, q => evB h fun y hy h => evB h fun z hz h => evP_wp a hy (evP_wp b hz (optP_of h q))
  | .frz (.disp l), x, h, q => evB h fun y hy h => evI h fun hl e => evPs_wp l hy ⟨hl, e ▸ q⟩
  | .tup l, x, h, q => evB h fun y hy h => evI h fun hl e => evPs_wp l hy ⟨hl, e ▸ q⟩
  | .edict, x, h, q => (noS h).elim
  | .bad, x, h, q => (noS h).elim
  | .op3 .., x, h, q => (noS h).elim
  | .ite .., x, h, q => (noS h).elim
  | .and_ .., x, h, q => (noS h).elim
  | .or_ .., x, h, q => (noS h).elim
  | .chain .., x, h, q => (noS h).elim
  | .call .., x, h, q => (noS h).elim
  | .meth .., x, h, q => (noS h).elim
  | .new .., x, h, q => (noS h).elim
  | .newF .., x, h, q => (noS h).elim
  | .thw .., x, h, q => (noS h).elim
  | .thwD .., x, h, q => (noS h).elim
  | .frz (.cat ..), x, h, q => (noS h).elim
  | .frz (.rep ..), x, h, q => (noS h).elim
  | .frz (.slc ..), x, h, q => (noS h).elim
  | .frz (.frm ..), x, h, q => (noS h).elim
  | .frz (.upt ..), x, h, q => (noS h).elim
  | .frz (.rev ..), x, h, q => (noS h).elim
  | .frz (.copy ..), x, h, q => (noS h).elim
  | .frz (.comp ..), x, h, q => (noS h).elim
theorem evPs_wp {Q : List V → St → Prop} : ∀ (es : EL) {xs : List V}, evPs H r es = some xs → Q xs H → wpEs C X r es H Q
  | .nil, x, h, q => by cases h; exact q
  | .cons e es, x, h, q => evB h fun y hy h => evM h fun z hz e' => evP_wp e hy (evPs_wp es hz (e' ▸ q))
end
end
section
variable (C : CallT) (X : St → Prop) (R : V → St → Prop)
noncomputable def boolIf (v : V) (P P' : Prop) : Prop := boolP v fun b => if b = true then P else P'
noncomputable def KS (rest : SL) (N : Loc → St → Prop) : Loc → St → Prop := fun r H => wpSL C X R rest r H N
noncomputable def KA (i : Nat) (r : Loc) (N : Loc → St → Prop) : V → St → Prop := fun x H => N (r.put i x) H
noncomputable def KR (N : Loc → St → Prop) (H : St) : Loc → Prop := fun r => N r H
noncomputable def KH (N : Loc → St → Prop) (r : Loc) : St → Prop := fun H => N r H
noncomputable def KT (is : List Nat) (r : Loc) (N : Loc → St → Prop) : V → St → Prop := fun x H => optP (bindT r is x) (KR N H)
noncomputable def KW (is : List Nat) (r : Loc) (N : Loc → St → Prop) : List V → St → Prop := fun vs H => optP (putAll r is vs) (KR N H)
noncomputable def KF2 (c : Cls) (i : Nat) (x : V) (r : Loc) (N : Loc → St → Prop) : V → St → Prop := fun y H => optP (setFld H c i x y) (KH N r)
noncomputable def KF1 (o : E) (c : Cls) (i : Nat) (r : Loc) (N : Loc → St → Prop) : V → St → Prop := fun x H => wpE C X r o H (KF2 c i x r N)
noncomputable def KX (r : Loc) (N : Loc → St → Prop) : V → St → Prop := fun _ H => N r H
noncomputable def KAp2 (y : V) (r : Loc) (N : Loc → St → Prop) : V → St → Prop := fun x H => optP (appendTo H x y) (KH N r)
noncomputable def KAp1 (e : E) (r : Loc) (N : Loc → St → Prop) : V → St → Prop := fun y H => (itemsV H y).isSome = true ∧ wpE C X r e H (KAp2 y r N)
noncomputable def KPop (r : Loc) (N : Loc → St → Prop) : V → St → Prop := fun y H => optP (popFrom H y) (KH N r)
noncomputable def KI (a b : SL) (r : Loc) (N : Loc → St → Prop) : V → St → Prop := fun v H => boolIf v (wpSL C X R a r H N) (wpSL C X R b r H N)
noncomputable def KTry (i : Nat) (r : Loc) : St → Prop := fun H => optP (r[i]?).join fun x => R x H
noncomputable def KRa : List V → St → Prop := fun _ H => X H
noncomputable def KI3 (x y : V) (r : Loc) (N : Loc → St → Prop) : V → St → Prop := fun z H => optP (intV z) fun k => optP (setItem H k x y) (KH N r)
noncomputable def KI2 (k : E) (x : V) (r : Loc) (N : Loc → St → Prop) : V → St → Prop := fun y H => wpE C X r k H (KI3 x y r N)
noncomputable def KI1 (o k : E) (r : Loc) (N : Loc → St → Prop) : V → St → Prop := fun x H => wpE C X r o H (KI2 C X k x r N)
noncomputable def KD3 (x y : V) (r : Loc) (N : Loc → St → Prop) : V → St → Prop := fun z H => optP (intV z) fun k => optP (setDict H k x y) (KH N r)
noncomputable def KD2 (k : E) (x : V) (r : Loc) (N : Loc → St → Prop) : V → St → Prop := fun y H => wpE C X r k H (KD3 x y r N)
noncomputable def KD1 (o k : E) (r : Loc) (N : Loc → St → Prop) : V → St → Prop := fun x H => wpE C X r o H (KD2 C X k x r N)
noncomputable def KSl5 (l h : Int) (y : V) (r : Loc) (N : Loc → St → Prop) (H : St) : List V → Prop := fun ys => optP (setSlc H l h ys y) (KH N r)
noncomputable def KSl4 (x y l : V) (r : Loc) (N : Loc → St → Prop) : V → St → Prop := fun h H => optP (intV l) fun l => optP (intV h) fun h => optP (itemsV H x) (KSl5 l h y r N H)
noncomputable def KSl3 (hi : E) (x y : V) (r : Loc) (N : Loc → St → Prop) : V → St → Prop := fun l H => wpE C X r hi H (KSl4 x y l r N)
noncomputable def KSl2 (lo hi : E) (x : V) (r : Loc) (N : Loc → St → Prop) : V → St → Prop := fun y H => wpE C X r lo H (KSl3 C X hi x y r N)
noncomputable def KSl1 (o lo hi : E) (r : Loc) (N : Loc → St → Prop) : V → St → Prop := fun x H => wpE C X r o H (KSl2 C X lo hi x r N)
noncomputable def KDp2 (y : V) (r : Loc) (N : Loc → St → Prop) : V → St → Prop := fun z H => optP (intV z) fun k => optP (dictPop H k y) (KH N r)
noncomputable def KDp1 (k : E) (r : Loc) (N : Loc → St → Prop) : V → St → Prop := fun y H => (dictV H y).isSome = true ∧ wpE C X r k H (KDp2 y r N)
noncomputable def KV (Q : V → St → Prop) (H : St) : V → Prop := fun z => Q z H
noncomputable def K1 (o : Op1) (Q : V → St → Prop) : V → St → Prop := fun x H => optP (ev1 H o x) (KV Q H)
noncomputable def K2b (o : Op2) (x : V) (Q : V → St → Prop) : V → St → Prop := fun y H => optP (ev2 H o x y) (KV Q H)
noncomputable def K2a (b : E) (r : Loc) (o : Op2) (Q : V → St → Prop) : V → St → Prop := fun x H => wpE C X r b H (K2b o x Q)
noncomputable def K3c (o : Op3) (x y : V) (Q : V → St → Prop) : V → St → Prop := fun z H => optP (ev3 H o x y z) (KV Q H)
noncomputable def K3b (c : E) (r : Loc) (o : Op3) (x : V) (Q : V → St → Prop) : V → St → Prop := fun y H => wpE C X r c H (K3c o x y Q)
noncomputable def K3a (b c : E) (r : Loc) (o : Op3) (Q : V → St → Prop) : V → St → Prop := fun x H => pre3 H o x ∧ wpE C X r b H (K3b C X c r o x Q)
noncomputable def KIe (a b : E) (r : Loc) (Q : V → St → Prop) : V → St → Prop := fun v H => boolIf v (wpE C X r a H Q) (wpE C X r b H Q)
noncomputable def KBo (Q : V → St → Prop) (H : St) : Bool → Prop := fun b => Q (.bool b) H
noncomputable def KBl (Q : V → St → Prop) : V → St → Prop := fun v H => boolP v (KBo Q H)
noncomputable def KAnd (b : E) (r : Loc) (Q : V → St → Prop) : V → St → Prop := fun v H => boolIf v (wpE C X r b H (KBl Q)) (Q (.bool false) H)
noncomputable def KOr (b : E) (r : Loc) (Q : V → St → Prop) : V → St → Prop := fun v H => boolIf v (Q (.bool true) H) (wpE C X r b H (KBl Q))
noncomputable def KC3 (c : E) (r : Loc) (y : V) (Q : V → St → Prop) (H : St) : V → Prop := fun v => boolIf v (wpE C X r c H (K2b .le y Q)) (Q (.bool false) H)
noncomputable def KC2 (c : E) (r : Loc) (x : V) (Q : V → St → Prop) : V → St → Prop := fun y H => optP (ev2 H .le x y) (KC3 C X c r y Q H)
noncomputable def KC1 (b c : E) (r : Loc) (Q : V → St → Prop) : V → St → Prop := fun x H => wpE C X r b H (KC2 C X c r x Q)
noncomputable def KCl (f : Fn) (Q : V → St → Prop) : List V → St → Prop := fun vs H => C f vs H Q X
noncomputable def KM2 (f : Fn) (v : V) (Q : V → St → Prop) : List V → St → Prop := fun vs H => C f (v :: vs) H Q X
noncomputable def KM1 (f : Fn) (args : EL) (r : Loc) (Q : V → St → Prop) : V → St → Prop := fun v H => isA H f v ∧ wpEs C X r args H (KM2 C X f v Q)
noncomputable def KNew (c : Cls) (t : Tag) (Q : V → St → Prop) : List V → St → Prop := fun vs H => ∀ a, C (initFn c) (.ref t a :: vs) (upd H t (some (a, .inst c []))) (fun y H' => y = .none ∧ Q (.ref t a) H') (fun _ => False)
noncomputable def KNewF (c : Cls) (Q : V → St → Prop) : List V → St → Prop := fun vs H => ∀ a, C (initFn c) (.ref .tmp a :: vs) (upd H .tmp (some (a, .inst c [])))
      (fun y H' => y = .none ∧ optP (fldsV H' c (.ref .tmp a)) fun xs => Q (.inst c xs) (upd H' .tmp .none)) (fun _ => False)
noncomputable def KTup (Q : V → St → Prop) : List V → St → Prop := fun vs H => vs.length ≤ lim ∧ Q (.tup vs) H
noncomputable def KFz (Q : V → St → Prop) : List V → St → Prop := fun xs H => xs.length ≤ lim ∧ Q (.lst xs) H
noncomputable def KTh (t : Tag) (Q : V → St → Prop) : List V → St → Prop := fun xs H => xs.length ≤ lim ∧ ∀ a, Q (.ref t a) (upd H t (some (a, .list xs)))
noncomputable def KEs2 (v : V) (Qs : List V → St → Prop) : List V → St → Prop := fun vs H => Qs (v :: vs) H
noncomputable def KEs (es : EL) (r : Loc) (Qs : List V → St → Prop) : V → St → Prop := fun v H => wpEs C X r es H (KEs2 v Qs)
noncomputable def KQs (Qs : List V → St → Prop) (H : St) : List V → Prop := fun xs => Qs xs H
noncomputable def KL4 (xs : List V) (Qs : List V → St → Prop) (H : St) : List V → Prop := fun ys => Qs (xs ++ ys) H
noncomputable def KL3 (y : V) (Qs : List V → St → Prop) (H : St) : List V → Prop := fun xs => optP (itemsV H y) (KL4 xs Qs H)
noncomputable def KL2 (x : V) (Qs : List V → St → Prop) : V → St → Prop := fun y H => optP (itemsV H x) (KL3 y Qs H)
noncomputable def KL1 (b : E) (r : Loc) (Qs : List V → St → Prop) : V → St → Prop := fun x H => wpE C X r b H (KL2 x Qs)
noncomputable def KCo2 (elt cond : E) (n : Nat) (Qs : List V → St → Prop) (H : St) : List V → Prop := fun xs => optP (compRun H elt cond n xs) (KQs Qs H)
noncomputable def KCo (elt cond : E) (n : Nat) (Qs : List V → St → Prop) : V → St → Prop := fun x H => optP (iterOf x) (KCo2 elt cond n Qs H)
noncomputable def KRp3 (y : V) (Qs : List V → St → Prop) (H : St) : List V → Prop := fun xs => optP (one xs) fun x => optP (intV y) fun k => (0 ≤ k ∧ k < 16777216) ∧ Qs (List.replicate k.toNat x.1) H
noncomputable def KRp2 (x : V) (Qs : List V → St → Prop) : V → St → Prop := fun y H => optP (itemsV H x) (KRp3 y Qs H)
noncomputable def KRp1 (b : E) (r : Loc) (Qs : List V → St → Prop) : V → St → Prop := fun x H => wpE C X r b H (KRp2 x Qs)
noncomputable def KSc4 (l h : V) (Qs : List V → St → Prop) (H : St) : List V → Prop := fun xs => optP (intV l) fun l => optP (intV h) fun h => Qs (pySlice xs l h) H
noncomputable def KSc3 (x l : V) (Qs : List V → St → Prop) : V → St → Prop := fun h H => optP (itemsV H x) (KSc4 l h Qs H)
noncomputable def KSc2 (hi : E) (r : Loc) (x : V) (Qs : List V → St → Prop) : V → St → Prop := fun l H => wpE C X r hi H (KSc3 x l Qs)
noncomputable def KSc1 (lo hi : E) (r : Loc) (Qs : List V → St → Prop) : V → St → Prop := fun x H => wpE C X r lo H (KSc2 C X hi r x Qs)
noncomputable def KFm3 (l : V) (Qs : List V → St → Prop) (H : St) : List V → Prop := fun xs => optP (intV l) fun l => Qs (xs.drop (clip xs.length l)) H
noncomputable def KFm2 (x : V) (Qs : List V → St → Prop) : V → St → Prop := fun l H => optP (itemsV H x) (KFm3 l Qs H)
noncomputable def KFm1 (lo : E) (r : Loc) (Qs : List V → St → Prop) : V → St → Prop := fun x H => wpE C X r lo H (KFm2 x Qs)
noncomputable def KUp3 (l : V) (Qs : List V → St → Prop) (H : St) : List V → Prop := fun xs => optP (intV l) fun l => Qs (xs.take (clip xs.length l)) H
noncomputable def KUp2 (x : V) (Qs : List V → St → Prop) : V → St → Prop := fun l H => optP (itemsV H x) (KUp3 l Qs H)
noncomputable def KUp1 (lo : E) (r : Loc) (Qs : List V → St → Prop) : V → St → Prop := fun x H => wpE C X r lo H (KUp2 x Qs)
noncomputable def KRv2 (Qs : List V → St → Prop) (H : St) : List V → Prop := fun xs => Qs xs.reverse H
noncomputable def KRv (Qs : List V → St → Prop) : V → St → Prop := fun x H => optP (itemsV H x) (KRv2 Qs H)
noncomputable def KCp (Qs : List V → St → Prop) : V → St → Prop := fun x H => optP (itemsV H x) (KQs Qs H)
noncomputable def tst (t : E) : Loc → St → (Bool → St → Prop) → Prop := fun r H K => wpE C (fun _ => False) r t H fun v H => boolP v fun c => K c H
noncomputable def bdy (b : SL) : Loc → St → (Loc → St → Prop) → Prop := fun r H K => wpSL C (fun _ => False) R b r H K
noncomputable def KWn (t : E) (b : SL) (n : Nat) (N : Loc → St → Prop) : Loc → St → Prop := fun r H => whlRec (tst C t) (bdy C R b) n r H N
noncomputable def KWh (t : E) (b : SL) (n : Nat) (r : Loc) (N : Loc → St → Prop) : V → St → Prop := fun v H => boolIf v (wpSL C (fun _ => False) R b r H (KWn C R t b n N)) (N r H)
noncomputable def forB (is : List Nat) (b : SL) : V → Loc → St → (Loc → St → Prop) → Prop := fun x r H K => optP (bindT r is x) fun r' => wpSL C (fun _ => False) R b r' H K
noncomputable def KFn (is : List Nat) (b : SL) (xs : List V) (N : Loc → St → Prop) : Loc → St → Prop := fun r H => forRec (forB C R is b) xs r H N
noncomputable def KFb (b : SL) (H : St) (N : Loc → St → Prop) : Loc → Prop := fun r => wpSL C (fun _ => False) R b r H N
noncomputable def KFo2 (is : List Nat) (b : SL) (r : Loc) (N : Loc → St → Prop) (H : St) : List V → Prop := fun xs => forRec (forB C R is b) xs r H N
noncomputable def KFo (is : List Nat) (b : SL) (r : Loc) (N : Loc → St → Prop) : V → St → Prop := fun v H => optP (iterOf v) (KFo2 C R is b r N H)
end
section
variable {C : CallT} {X : St → Prop} {r : Loc} {H : St} {R : V → St → Prop} {N : Loc → St → Prop} {Q : V → St → Prop} {Qs : List V → St → Prop}
theorem s_nil (h : N r H) : wpSL C X R .nil r H N := h
theorem s_cons {s rest} (h : wpS C X R s r H (KS C X R rest N)) : wpSL C X R (.cons s rest) r H N := h
theorem k_S {rest} (h : wpSL C X R rest r H N) : KS C X R rest N r H := h
theorem s_asg {i e} (h : wpE C X r e H (KA i r N)) : wpS C X R (.asg i e) r H N := h
theorem k_A {i x} (h : N (r.put i x) H) : KA i r N x H := h
theorem k_R {N : Loc → St → Prop} (h : N r H) : KR N H r := h
theorem k_H {N : Loc → St → Prop} (h : N r H) : KH N r H := h
theorem s_asgT {is e} (h : wpE C X r e H (KT is r N)) : wpS C X R (.asgT is e) r H N := h
theorem k_T {is x} (h : optP (bindT r is x) (KR N H)) : KT is r N x H := h
theorem s_asgW {is es} (h : wpEs C X r es H (KW is r N)) : wpS C X R (.asgW is es) r H N := h
theorem k_W {is vs} (h : optP (putAll r is vs) (KR N H)) : KW is r N vs H := h
theorem s_setF {o c i e} (h : wpE C X r e H (KF1 C X o c i r N)) : wpS C X R (.setF o c i e) r H N := h
theorem k_F1 {o c i x} (h : wpE C X r o H (KF2 c i x r N)) : KF1 C X o c i r N x H := h
theorem k_F2 {c i x y} (h : optP (setFld H c i x y) (KH N r)) : KF2 c i x r N y H := h
theorem s_ex {e} (h : wpE C X r e H (KX r N)) : wpS C X R (.ex e) r H N := h
theorem k_X {x} (h : N r H) : KX r N x H := h
theorem s_app {o e} (h : wpE C X r o H (KAp1 C X e r N)) : wpS C X R (.app o e) r H N := h
theorem k_Ap1 {e y} (h : (itemsV H y).isSome = true ∧ wpE C X r e H (KAp2 y r N)) : KAp1 C X e r N y H := h
theorem k_Ap2 {x y} (h : optP (appendTo H x y) (KH N r)) : KAp2 y r N x H := h
theorem s_pop0 {o} (h : wpE C X r o H (KPop r N)) : wpS C X R (.pop0 o) r H N := h
theorem k_Pop {y} (h : optP (popFrom H y) (KH N r)) : KPop r N y H := h
theorem s_ret {e} (h : wpE C X r e H R) : wpS C X R (.ret e) r H N := h
theorem s_ite {t a b} (h : wpE C X r t H (KI C X R a b r N)) : wpS C X R (.ite t a b) r H N := h
theorem k_I {a b v} (h : boolIf v (wpSL C X R a r H N) (wpSL C X R b r H N)) : KI C X R a b r N v H := h
theorem s_try {e i} (h : wpE C (KTry R i r) r e H (KX r N)) : wpS C X R (.try_ e i) r H N := h
theorem k_Try {i} (h : optP (r[i]?).join fun x => R x H) : KTry R i r H := h
theorem s_raise {es} (h : wpEs C X r es H (KRa X)) : wpS C X R (.raise_ es) r H N := h
theorem k_Ra {vs} (h : X H) : KRa X vs H := h
theorem s_setI {o k e} (h : wpE C X r e H (KI1 C X o k r N)) : wpS C X R (.setI o k e) r H N := h
theorem k_I1 {o k x} (h : wpE C X r o H (KI2 C X k x r N)) : KI1 C X o k r N x H := h
theorem k_I2 {k x y} (h : wpE C X r k H (KI3 x y r N)) : KI2 C X k x r N y H := h
theorem k_I3 {x y} {k : Int} (h : optP (setItem H k x y) (KH N r)) : KI3 x y r N (.int k) H := h
theorem s_setD {o k e} (h : wpE C X r e H (KD1 C X o k r N)) : wpS C X R (.setD o k e) r H N := h
theorem k_D1 {o k x} (h : wpE C X r o H (KD2 C X k x r N)) : KD1 C X o k r N x H := h
theorem k_D2 {k x y} (h : wpE C X r k H (KD3 x y r N)) : KD2 C X k x r N y H := h
theorem k_D3 {x y} {k : Int} (h : optP (setDict H k x y) (KH N r)) : KD3 x y r N (.int k) H := h
theorem s_setS {o lo hi e} (h : wpE C X r e H (KSl1 C X o lo hi r N)) : wpS C X R (.setS o lo hi e) r H N := h
theorem k_Sl1 {o lo hi x} (h : wpE C X r o H (KSl2 C X lo hi x r N)) : KSl1 C X o lo hi r N x H := h
theorem k_Sl2 {lo hi x y} (h : wpE C X r lo H (KSl3 C X hi x y r N)) : KSl2 C X lo hi x r N y H := h
theorem k_Sl3 {hi x y l} (h : wpE C X r hi H (KSl4 x y l r N)) : KSl3 C X hi x y r N l H := h
theorem k_Sl4 {x y} {l h : Int} (q : optP (itemsV H x) (KSl5 l h y r N H)) : KSl4 x y (.int l) r N (.int h) H := q
theorem k_Sl5 {y ys} {l h : Int} (q : optP (setSlc H l h ys y) (KH N r)) : KSl5 l h y r N H ys := q
theorem s_dpop {o k} (h : wpE C X r o H (KDp1 C X k r N)) : wpS C X R (.dpop o k) r H N := h
theorem k_Dp1 {k y} (h : (dictV H y).isSome = true ∧ wpE C X r k H (KDp2 y r N)) : KDp1 C X k r N y H := h
theorem k_Dp2 {y} {k : Int} (h : optP (dictPop H k y) (KH N r)) : KDp2 y r N (.int k) H := h
theorem k_V {z} (h : Q z H) : KV Q H z := h
theorem e_op1 {o a} (h : wpE C X r a H (K1 o Q)) : wpE C X r (.op1 o a) H Q := h
theorem k_1 {o x} (h : optP (ev1 H o x) (KV Q H)) : K1 o Q x H := h
theorem e_op2 {o a b} (h : wpE C X r a H (K2a C X b r o Q)) : wpE C X r (.op2 o a b) H Q := h
theorem k_2a {o b x} (h : wpE C X r b H (K2b o x Q)) : K2a C X b r o Q x H := h
theorem k_2b {o x y} (h : optP (ev2 H o x y) (KV Q H)) : K2b o x Q y H := h
theorem e_op3 {o a b c} (h : wpE C X r a H (K3a C X b c r o Q)) : wpE C X r (.op3 o a b c) H Q := h
theorem k_3a {o b c x} (h : pre3 H o x ∧ wpE C X r b H (K3b C X c r o x Q)) : K3a C X b c r o Q x H := h
theorem k_3b {o c x y} (h : wpE C X r c H (K3c o x y Q)) : K3b C X c r o x Q y H := h
theorem k_3c {o x y z} (h : optP (ev3 H o x y z) (KV Q H)) : K3c o x y Q z H := h
theorem e_ite {t a b} (h : wpE C X r t H (KIe C X a b r Q)) : wpE C X r (.ite t a b) H Q := h
theorem k_Ie {a b v} (h : boolIf v (wpE C X r a H Q) (wpE C X r b H Q)) : KIe C X a b r Q v H := h
theorem e_and {a b} (h : wpE C X r a H (KAnd C X b r Q)) : wpE C X r (.and_ a b) H Q := h
theorem k_And {b v} (h : boolIf v (wpE C X r b H (KBl Q)) (Q (.bool false) H)) : KAnd C X b r Q v H := h
theorem k_Bl {v} (h : boolP v (KBo Q H)) : KBl Q v H := h
theorem k_Bo {b} (h : Q (.bool b) H) : KBo Q H b := h
theorem e_or {a b} (h : wpE C X r a H (KOr C X b r Q)) : wpE C X r (.or_ a b) H Q := h
theorem k_Or {b v} (h : boolIf v (Q (.bool true) H) (wpE C X r b H (KBl Q))) : KOr C X b r Q v H := h
theorem e_chain {a b c} (h : wpE C X r a H (KC1 C X b c r Q)) : wpE C X r (.chain a b c) H Q := h
theorem k_C1 {b c x} (h : wpE C X r b H (KC2 C X c r x Q)) : KC1 C X b c r Q x H := h
theorem k_C2 {c x y} (h : optP (ev2 H .le x y) (KC3 C X c r y Q H)) : KC2 C X c r x Q y H := h
theorem k_C3 {c y v} (h : boolIf v (wpE C X r c H (K2b .le y Q)) (Q (.bool false) H)) : KC3 C X c r y Q H v := h
theorem e_call {f args} (h : wpEs C X r args H (KCl C X f Q)) : wpE C X r (.call f args) H Q := h
theorem k_Cl {f vs} (h : C f vs H Q X) : KCl C X f Q vs H := h
theorem e_meth {f o args} (h : wpE C X r o H (KM1 C X f args r Q)) : wpE C X r (.meth f o args) H Q := h
theorem k_M1 {f args v} (h : isA H f v ∧ wpEs C X r args H (KM2 C X f v Q)) : KM1 C X f args r Q v H := h
theorem k_M2 {f v vs} (h : C f (v :: vs) H Q X) : KM2 C X f v Q vs H := h
theorem e_new {c t args} (h : wpEs C X r args H (KNew C c t Q)) : wpE C X r (.new c t args) H Q := h
theorem k_New {c t vs} (h : ∀ a, C (initFn c) (.ref t a :: vs) (upd H t (some (a, .inst c []))) (fun y H' => y = .none ∧ Q (.ref t a) H') (fun _ => False)) : KNew C c t Q vs H := h
theorem e_newF {c args} (h : wpEs C X r args H (KNewF C c Q)) : wpE C X r (.newF c args) H Q := h
theorem k_NewF {c vs} (h : ∀ a, C (initFn c) (.ref .tmp a :: vs) (upd H .tmp (some (a, .inst c [])))
      (fun y H' => y = .none ∧ optP (fldsV H' c (.ref .tmp a)) fun xs => Q (.inst c xs) (upd H' .tmp .none)) (fun _ => False)) : KNewF C c Q vs H := h
theorem e_tup {args} (h : wpEs C X r args H (KTup Q)) : wpE C X r (.tup args) H Q := h
theorem k_Tup {vs} (h : vs.length ≤ lim ∧ Q (.tup vs) H) : KTup Q vs H := h
theorem e_frz {l} (h : wpL C X r l H (KFz Q)) : wpE C X r (.frz l) H Q := h
theorem k_Fz {vs} (h : vs.length ≤ lim ∧ Q (.lst vs) H) : KFz Q vs H := h
theorem e_thw {t l} (h : wpL C X r l H (KTh t Q)) : wpE C X r (.thw t l) H Q := h
theorem k_Th {t xs} (h : xs.length ≤ lim ∧ ∀ a, Q (.ref t a) (upd H t (some (a, .list xs)))) : KTh t Q xs H := h
theorem e_thwD {t} (h : ∀ a, Q (.ref t a) (upd H t (some (a, .dict [])))) : wpE C X r (.thwD t) H Q := h
theorem es_nil (h : Qs [] H) : wpEs C X r .nil H Qs := h
theorem es_cons {e es} (h : wpE C X r e H (KEs C X es r Qs)) : wpEs C X r (.cons e es) H Qs := h
theorem k_Es {es v} (h : wpEs C X r es H (KEs2 v Qs)) : KEs C X es r Qs v H := h
theorem k_Es2 {v vs} (h : Qs (v :: vs) H) : KEs2 v Qs vs H := h
theorem k_Qs {xs} (h : Qs xs H) : KQs Qs H xs := h
theorem l_disp {args} (h : wpEs C X r args H Qs) : wpL C X r (.disp args) H Qs := h
theorem l_cat {a b} (h : wpE C X r a H (KL1 C X b r Qs)) : wpL C X r (.cat a b) H Qs := h
theorem k_L1 {b x} (h : wpE C X r b H (KL2 x Qs)) : KL1 C X b r Qs x H := h
theorem k_L2 {x y} (h : optP (itemsV H x) (KL3 y Qs H)) : KL2 x Qs y H := h
theorem k_L3 {y xs} (h : optP (itemsV H y) (KL4 xs Qs H)) : KL3 y Qs H xs := h
theorem k_L4 {xs ys} (h : Qs (xs ++ ys) H) : KL4 xs Qs H ys := h
theorem l_comp {elt cond n src} (h : wpE C X r src H (KCo elt cond n Qs)) : wpL C X r (.comp elt cond n src) H Qs := h
theorem k_Co {elt cond n x} (h : optP (iterOf x) (KCo2 elt cond n Qs H)) : KCo elt cond n Qs x H := h
theorem k_Co2 {elt cond n xs} (h : optP (compRun H elt cond n xs) (KQs Qs H)) : KCo2 elt cond n Qs H xs := h
theorem l_rep {a b} (h : wpE C X r a H (KRp1 C X b r Qs)) : wpL C X r (.rep a b) H Qs := h
theorem k_Rp1 {b x} (h : wpE C X r b H (KRp2 x Qs)) : KRp1 C X b r Qs x H := h
theorem k_Rp2 {x y} (h : optP (itemsV H x) (KRp3 y Qs H)) : KRp2 x Qs y H := h
theorem k_Rp3 {x} {k : Int} (h : (0 ≤ k ∧ k < 16777216) ∧ Qs (List.replicate k.toNat x) H) : KRp3 (.int k) Qs H [x] := h
theorem l_slc {a lo hi} (h : wpE C X r a H (KSc1 C X lo hi r Qs)) : wpL C X r (.slc a lo hi) H Qs := h
theorem k_Sc1 {lo hi x} (h : wpE C X r lo H (KSc2 C X hi r x Qs)) : KSc1 C X lo hi r Qs x H := h
theorem k_Sc2 {hi x l} (h : wpE C X r hi H (KSc3 x l Qs)) : KSc2 C X hi r x Qs l H := h
theorem k_Sc3 {x l h} (q : optP (itemsV H x) (KSc4 l h Qs H)) : KSc3 x l Qs h H := q
theorem k_Sc4 {xs} {l h : Int} (q : Qs (pySlice xs l h) H) : KSc4 (.int l) (.int h) Qs H xs := q
theorem l_frm {a lo} (h : wpE C X r a H (KFm1 C X lo r Qs)) : wpL C X r (.frm a lo) H Qs := h
theorem k_Fm1 {lo x} (h : wpE C X r lo H (KFm2 x Qs)) : KFm1 C X lo r Qs x H := h
theorem k_Fm2 {x l} (h : optP (itemsV H x) (KFm3 l Qs H)) : KFm2 x Qs l H := h
theorem k_Fm3 {xs} {l : Int} (h : Qs (xs.drop (clip xs.length l)) H) : KFm3 (.int l) Qs H xs := h
theorem l_upt {a hi} (h : wpE C X r a H (KUp1 C X hi r Qs)) : wpL C X r (.upt a hi) H Qs := h
theorem k_Up1 {lo x} (h : wpE C X r lo H (KUp2 x Qs)) : KUp1 C X lo r Qs x H := h
theorem k_Up2 {x l} (h : optP (itemsV H x) (KUp3 l Qs H)) : KUp2 x Qs l H := h
theorem k_Up3 {xs} {l : Int} (h : Qs (xs.take (clip xs.length l)) H) : KUp3 (.int l) Qs H xs := h
theorem l_rev {a} (h : wpE C X r a H (KRv Qs)) : wpL C X r (.rev a) H Qs := h
theorem k_Rv {x} (h : optP (itemsV H x) (KRv2 Qs H)) : KRv Qs x H := h
theorem k_Rv2 {xs} (h : Qs xs.reverse H) : KRv2 Qs H xs := h
theorem l_copy {a} (h : wpE C X r a H (KCp Qs)) : wpL C X r (.copy a) H Qs := h
theorem k_Cp {x} (h : optP (itemsV H x) (KQs Qs H)) : KCp Qs x H := h
theorem for_nil {body} {N : Loc → St → Prop} (h : N r H) : forRec body [] r H N := h
theorem s_whl' {t b} (h : ∃ n, whlRec (tst C t) (bdy C R b) n r H N) : wpS C X R (.whl t b) r H N := h
theorem whl_step {t b n} (h : wpE C (fun _ => False) r t H (KWh C R t b n r N)) : whlRec (tst C t) (bdy C R b) (n + 1) r H N := h
theorem k_Wh {t b n v} (h : boolIf v (wpSL C (fun _ => False) R b r H (KWn C R t b n N)) (N r H)) : KWh C R t b n r N v H := h
theorem k_Wn {t b n} (h : whlRec (tst C t) (bdy C R b) n r H N) : KWn C R t b n N r H := h
theorem s_for' {is it b} (h : wpE C X r it H (KFo C R is b r N)) : wpS C X R (.for_ is it b) r H N := h
theorem k_Fo {is b v} (h : optP (iterOf v) (KFo2 C R is b r N H)) : KFo C R is b r N v H := h
theorem k_Fo2 {is b xs} (h : forRec (forB C R is b) xs r H N) : KFo2 C R is b r N H xs := h
theorem for_step {is b x xs} (h : optP (bindT r is x) (KFb C R b H (KFn C R is b xs N))) : forRec (forB C R is b) (x :: xs) r H N := h
theorem k_Fb {b} {N : Loc → St → Prop} (h : wpSL C (fun _ => False) R b r H N) : KFb C R b H N r := h
theorem k_Fn {is b xs} (h : forRec (forB C R is b) xs r H N) : KFn C R is b xs N r H := h
theorem for_cons {is b x xs} (h : forB C R is b x r H (KFn C R is b xs N)) : forRec (forB C R is b) (x :: xs) r H N := h
end
end Mine
set_option backward.match.sparseCases false
namespace Mine
open PySem PySem.W PyProof.Rows
noncomputable def Word.text : Word → String
  | .insert => "insert" | .delete => "delete" | .property => "property" | .marker => "marker" | .point => "point" | .unmodified => "unmodified" | .boundary => "boundary"
  | .same => "same" | .new => "new" | .gone => "gone" | .a => "a" | .userError => "user-error" | .noFurther => "No further undo information"
  | .noFurtherRegion => "No further undo information for region" | .noInfo => "No undo information in this buffer" | .noUndo => "No undo to undo" | .redo => "Redo" | .undo => "Undo"
  | .undoInRegion => "Undo in region" | .bufRead => "buffer-read-only" | .err => "error" | .maxSize => "Maximum buffer size exceeded" | .outOfRange => "args-out-of-range" | .outside => "Changes to be undone are outside visible portion of buffer"
noncomputable def Word.str (w : Word) : Str := Str.ofString w.text
noncomputable def allW : List Word := [.insert, .delete, .property, .marker, .point, .unmodified, .boundary, .same, .new, .gone, .a, .userError, .noFurther, .noFurtherRegion, .noInfo, .noUndo, .redo, .undo, .undoInRegion, .bufRead, .err, .maxSize, .outOfRange, .outside]
theorem allW_at (a : Word) : allW[a.ctorIdx]? = some a := by cases a <;> rfl
theorem allW_chk : (allW.all fun a => allW.all fun b => (a.str == b.str) == decide (a = b)) = true := by decide +kernel
theorem Word.str_inj (a b : Word) : (a.str == b.str) = decide (a = b) :=
  eq_of_beq (List.all_eq_true.mp (List.all_eq_true.mp allW_chk a (List.mem_of_getElem? (allW_at a))) b (List.mem_of_getElem? (allW_at b)))
noncomputable def Cls.fields : Cls → List String
  | .gap => ["room", "cells", "gap_start", "gap_end"]
  | .markers => ["rows"]
  | .buffer => ["number", "name", "text", "markers", "point", "begv", "zv", "mark", "is_live", "is_read_only", "ticks", "codes_ticks", "saved_ticks", "listeners", "undo", "props", "overlays", "locals", "syntax", "file"]
  | .ulist => ["rows", "dropped", "is_on", "point_before", "noted_tick"]
  | .recording => ["list"]
  | .undoing => ["pending", "idle", "chosen", "equal"]
  | .beside => ["stretches", "start", "end"]
  | .piece => ["codes", "runs"]
inductive Own | obj (t : Tag) | mach | exc | temp
  deriving DecidableEq
abbrev Wd := Addr → Option Own
noncomputable def KeysAre : List String → List DictEntry → Prop
  | _, [] => True
  | n :: ns, e :: es => (∃ t, e.key = .str (Str.ofString n) t) ∧ KeysAre ns es
  | [], _ :: _ => False
section
variable (cA : Cls → Addr)
mutual
noncomputable def Rep (h : Heap) (W : Wd) : V → Value → Prop
  | .none, v => v = .none
  | .bool b, v => v = .bool b
  | .int i, v => ∃ t, v = .int i t
  | .str w, v => ∃ t, v = .str w.str t
  | .ref _ a, v => v = .ref a
  | .tup xs, v => ∃ a vs, v = .ref a ∧ W a = .none ∧ IsTup h a vs.toArray ∧ vs.length ≤ lim ∧ Reps h W xs vs
  | .lst xs, v => ∃ a vs, v = .ref a ∧ W a = .none ∧ h.PlainList a vs.toArray ∧ vs.length ≤ lim ∧ Reps h W xs vs
  | .inst c xs, v => ∃ a dx es n, v = .ref a ∧ W a = .none ∧ W dx = .none ∧ h.get? a = some (instObj (cA c) dx) ∧ h.get? dx = some (dictOf es n) ∧ KeysAre c.fields es ∧ Reps h W xs (es.map (·.val))
  | .rng a b c, v => ∃ r t u s, v = .ref r ∧ W r = .none ∧ IsRange h r a b c t u s
  | .edict, v => ∃ r, v = .ref r ∧ W r = .none ∧ (r == sysModules) = false ∧ h.get? r = some (dictOf [] 0)
noncomputable def Reps (h : Heap) (W : Wd) : List V → List Value → Prop
  | [], [] => True
  | x :: xs, v :: vs => Rep h W x v ∧ Reps h W xs vs
  | _, _ => False
end
noncomputable def PRep (h : Heap) (W : Wd) : List (Int × V) → List (Int × Value) → Prop
  | [], [] => True
  | (k, x) :: kvs, (j, v) :: ps => k = j ∧ Rep cA h W x v ∧ PRep h W kvs ps
  | _, _ => False
variable (prog : Program) (w : World)
noncomputable def ObjAt (h : Heap) (W : Wd) (t : Tag) (a : Addr) : O → Prop
  | .list xs => W a = some (.obj t) ∧ ∃ vs, h.PlainList a vs.toArray ∧ vs.length ≤ lim ∧ Reps cA h W xs vs
  | .inst c xs => W a = some (.obj t) ∧ ∃ dx es n, W dx = some (.obj t) ∧ dx ≠ a ∧ h.get? a = some (instObj (cA c) dx) ∧ h.get? dx = some (dictOf es n) ∧ KeysAre c.fields es ∧ Reps cA h W xs (es.map (·.val))
  | .dict kvs => W a = some (.obj t) ∧ (a == sysModules) = false ∧ ∃ ps, h.DictOf (intKind prog w) a ps ∧ PRep cA h W kvs ps
noncomputable def Keeps (W : Wd) (h : Heap) (W' : Wd) (h' : Heap) : Prop := ∀ b o, W b = .none → h.get? b = some o → h'.get? b = some o ∧ W' b = .none
theorem Keeps.refl (W : Wd) (h : Heap) : Keeps W h W h := fun _ _ hw e => ⟨e, hw⟩
theorem Keeps.trans {W W' W'' : Wd} {h h' h'' : Heap} (x : Keeps W h W' h') (y : Keeps W' h' W'' h'') : Keeps W h W'' h'' := fun b o hw e => y b o (x b o hw e).2 (x b o hw e).1
section
variable {cA} {W W' : Wd} {h h' : Heap} (k : Keeps W h W' h')
include k
theorem Keeps.list {a : Addr} {items} (hw : W a = .none) (x : h.PlainList a items) : W' a = .none ∧ h'.PlainList a items := let ⟨n, ho⟩ := x; ⟨(k a _ hw ho).2, n, (k a _ hw ho).1⟩
theorem Keeps.tup {a : Addr} {items} (hw : W a = .none) (x : IsTup h a items) : W' a = .none ∧ IsTup h' a items := let ⟨o, ho, r⟩ := x; ⟨(k a o hw ho).2, o, (k a o hw ho).1, r⟩
omit k in
theorem Reps.ind {h : Heap} {W : Wd} {P : List V → List Value → Prop} (h0 : P [] []) (hs : ∀ {x xs v vs}, Rep cA h W x v → Reps cA h W xs vs → P xs vs → P (x :: xs) (v :: vs)) : ∀ {xs : List V} {vs : List Value}, Reps cA h W xs vs → P xs vs := by
  intro xs
  induction xs with
  | nil =>
    intro vs r
    cases vs with
    | nil => exact h0
    | cons v vs => exact r.elim
  | cons x xs ih =>
    intro vs r
    cases vs with
    | nil => exact r.elim
    | cons v vs => exact hs r.1 r.2 (ih r.2)
theorem Rep.k_tup {xs : List V} {v : Value} (ih : ∀ {vs : List Value}, Reps cA h W xs vs → Reps cA h' W' xs vs) (r : Rep cA h W (.tup xs) v) : Rep cA h' W' (.tup xs) v := by
  refine @bc _ fun k_ => ?_
  obtain ⟨a, vs, e, hw, hl, hn, hr⟩ := r
  apply k_; clear k_
  exact ⟨a, vs, e, (k.tup hw hl).1, (k.tup hw hl).2, hn, ih hr⟩
theorem Rep.k_lst {xs : List V} {v : Value} (ih : ∀ {vs : List Value}, Reps cA h W xs vs → Reps cA h' W' xs vs) (r : Rep cA h W (.lst xs) v) : Rep cA h' W' (.lst xs) v := by
  refine @bc _ fun k_ => ?_
  obtain ⟨a, vs, e, hw, hl, hn, hr⟩ := r
  apply k_; clear k_
  exact ⟨a, vs, e, (k.list hw hl).1, (k.list hw hl).2, hn, ih hr⟩
theorem Rep.k_inst {c : Cls} {xs : List V} {v : Value} (ih : ∀ {vs : List Value}, Reps cA h W xs vs → Reps cA h' W' xs vs) (r : Rep cA h W (.inst c xs) v) : Rep cA h' W' (.inst c xs) v := by
  refine @bc _ fun k_ => ?_
  obtain ⟨a, dx, es, n, e, h1, h2, h3, h4, h5, hr⟩ := r
  apply k_; clear k_
  exact ⟨a, dx, es, n, e, (k _ _ h1 h3).2, (k _ _ h2 h4).2, (k _ _ h1 h3).1, (k _ _ h2 h4).1, h5, ih hr⟩
theorem Rep.k_rng {x y z : Int} {v : Value} (r : Rep cA h W (.rng x y z) v) : Rep cA h' W' (.rng x y z) v := by
  refine @bc _ fun k_ => ?_
  obtain ⟨r, t, u, s, e, h1, h2⟩ := r
  apply k_; clear k_
  exact ⟨r, t, u, s, e, (k _ _ h1 h2).2, (k _ _ h1 h2).1⟩
theorem Rep.k_edict {v : Value} (r : Rep cA h W .edict v) : Rep cA h' W' .edict v := by
  refine @bc _ fun k_ => ?_
  obtain ⟨r, e, h1, h0, h2⟩ := r
  apply k_; clear k_
  exact ⟨r, e, (k _ _ h1 h2).2, h0, (k _ _ h1 h2).1⟩
mutual
theorem Rep.keeps : ∀ (x : V) {v : Value}, Rep cA h W x v → Rep cA h' W' x v
  | .none, _, r => r
  | .bool _, _, r => r
  | .int _, _, r => r
  | .str _, _, r => r
  | .ref _ _, _, r => r
  | .tup xs, _, r => Rep.k_tup k (Reps.keeps xs) r
  | .lst xs, _, r => Rep.k_lst k (Reps.keeps xs) r
  | .inst c xs, _, r => Rep.k_inst k (Reps.keeps xs) r
  | .rng _ _ _, _, r => Rep.k_rng k r
  | .edict, _, r => Rep.k_edict k r
theorem Reps.keeps : ∀ (xs : List V) {vs : List Value}, Reps cA h W xs vs → Reps cA h' W' xs vs
  | [], _, r => Reps.ind (cA := cA) (P := fun xs vs => xs = [] → Reps cA h' W' xs vs) (fun _ => trivial) (fun _ _ _ q => by cases q) r rfl
  | x :: xs, vs, r => match vs, r with
    | [], r => r.elim
    | _ :: _, r => ⟨Rep.keeps x r.1, Reps.keeps xs r.2⟩
end
end
theorem PRep.keeps {W W' : Wd} {h h' : Heap} (k : Keeps W h W' h') : ∀ {xs : List (Int × V)} {vs : List (Int × Value)}, PRep cA h W xs vs → PRep cA h' W' xs vs
  | [], [], _ => trivial
  | _ :: _, [], r => r.elim
  | [], _ :: _, r => r.elim
  | (_, x) :: _, (_, _) :: _, ⟨a, b, c⟩ => ⟨a, Rep.keeps k x b, PRep.keeps k c⟩
theorem Reps.length {h : Heap} {W : Wd} {xs : List V} {vs : List Value} (r : Reps cA h W xs vs) : xs.length = vs.length :=
  Reps.ind (P := fun xs vs => xs.length = vs.length) rfl (fun _ _ ih => congrArg (· + 1) ih) r
theorem Reps.get {h : Heap} {W : Wd} {xs : List V} {vs : List Value} {i : Nat} {x : V} (r : Reps cA h W xs vs) : xs[i]? = some x → ∃ v, vs[i]? = some v ∧ Rep cA h W x v :=
  Reps.ind (P := fun xs vs => ∀ i, xs[i]? = some x → ∃ v, vs[i]? = some v ∧ Rep cA h W x v) (fun i e => by cases e) (fun {_ _ v _} a _ ih i => by
    cases i with
    | zero => exact fun e => ⟨v, rfl, by cases e; exact a⟩
    | succ i => exact ih i) r i
theorem Reps.append {h : Heap} {W : Wd} {xs ys : List V} {vs us : List Value} (r : Reps cA h W xs vs) (q : Reps cA h W ys us) : Reps cA h W (xs ++ ys) (vs ++ us) :=
  Reps.ind (P := fun xs vs => Reps cA h W (xs ++ ys) (vs ++ us)) q (fun a _ ih => ⟨a, ih⟩) r
theorem Reps.take {h : Heap} {W : Wd} {xs : List V} {vs : List Value} (n : Nat) (r : Reps cA h W xs vs) : Reps cA h W (xs.take n) (vs.take n) :=
  Reps.ind (P := fun xs vs => ∀ n, Reps cA h W (xs.take n) (vs.take n)) (fun n => by rw [List.take_nil, List.take_nil]; trivial) (fun a _ ih n => by
    cases n with
    | zero => trivial
    | succ n => exact ⟨a, ih n⟩) r n
theorem Reps.drop {h : Heap} {W : Wd} {xs : List V} {vs : List Value} (n : Nat) (r : Reps cA h W xs vs) : Reps cA h W (xs.drop n) (vs.drop n) :=
  Reps.ind (P := fun xs vs => ∀ n, Reps cA h W (xs.drop n) (vs.drop n)) (fun n => by rw [List.drop_nil, List.drop_nil]; trivial) (fun a q ih n => by
    cases n with
    | zero => exact ⟨a, q⟩
    | succ n => exact ih n) r n
theorem Reps.set {h : Heap} {W : Wd} {xs : List V} {vs : List Value} (n : Nat) {x : V} {v : Value} (r : Reps cA h W xs vs) (q : Rep cA h W x v) : Reps cA h W (xs.set n x) (vs.set n v) :=
  Reps.ind (P := fun xs vs => ∀ n, Reps cA h W (xs.set n x) (vs.set n v)) (fun n => trivial) (fun a b ih n => by
    cases n with
    | zero => exact ⟨q, b⟩
    | succ n => exact ⟨a, ih n⟩) r n
theorem Reps.reverse {h : Heap} {W : Wd} {xs : List V} {vs : List Value} (r : Reps cA h W xs vs) : Reps cA h W xs.reverse vs.reverse :=
  Reps.ind (P := fun xs vs => Reps cA h W xs.reverse vs.reverse) trivial (fun a _ ih => by
    simp only [List.reverse_cons, List.reverse_cons]
    exact Reps.append (cA := cA) ih ⟨a, trivial⟩) r
theorem Reps.replicate {h : Heap} {W : Wd} {x : V} {v : Value} (r : Rep cA h W x v) : ∀ n, Reps cA h W (List.replicate n x) (List.replicate n v)
  | 0 => trivial
  | n + 1 => ⟨r, Reps.replicate r n⟩
variable (base : Heap) (g₀ : Array GenState) (o₀ : OsState)
structure StOk (s : Shared) (W : Wd) (H : St) : Prop where
  keep : base.StaysIn s.heap
  wbase : ∀ b o, base.get? b = some o → W b = .none
  live : ∀ b, W b ≠ .none → ∃ o, s.heap.get? b = some o
  objs : ∀ t a o, H t = some (a, o) → ObjAt cA prog w s.heap W t a o
  gens : s.gens = g₀
  os : s.os = o₀
structure Ext (P : Addr → Prop) (s : Shared) (W : Wd) (s' : Shared) (W' : Wd) : Prop where
  keep : ∀ b o, W b = .none → s.heap.get? b = some o → s'.heap.get? b = some o ∧ W' b = .none
  mach : ∀ b, W b = some .mach → W' b = some .mach
  turn : ∀ b o, W b = some .mach → ¬ P b → s.heap.get? b = some o → ∃ sl, s'.heap.get? b = some { o with slots := sl }
  nofld : ∀ b o, W b = some .mach → s.heap.get? b = some o → (∀ vs, o.data ≠ .fields vs) → ∃ o', s'.heap.get? b = some o' ∧ ∀ vs, o'.data ≠ .fields vs
  temp : ∀ b o, W b = some .temp → ¬ P b → s.heap.get? b = some o → s'.heap.get? b = some o ∧ W' b = some .temp
theorem Ext.refl (P : Addr → Prop) (s : Shared) (W : Wd) : Ext P s W s W := ⟨fun _ _ hw e => ⟨e, hw⟩, fun _ h => h, fun _ o _ _ e => ⟨o.slots, e⟩, fun _ o _ e h => ⟨o, e, h⟩, fun _ _ h _ e => ⟨e, h⟩⟩
theorem Ext.trans {P : Addr → Prop} {s s' s'' : Shared} {W W' W'' : Wd} (x : Ext P s W s' W') (y : Ext P s' W' s'' W'') : Ext P s W s'' W'' :=
  ⟨fun b o hw e => y.keep b o (x.keep b o hw e).2 (x.keep b o hw e).1, fun b h => y.mach b (x.mach b h), fun b o hw hp e => by
    obtain ⟨sl, e'⟩ := x.turn b o hw hp e
    obtain ⟨sl', e''⟩ := y.turn b _ (x.mach b hw) hp e'
    exact ⟨sl', e''⟩, fun b o hw e h => by
    obtain ⟨o', e', h'⟩ := x.nofld b o hw e h
    exact y.nofld b o' (x.mach b hw) e' h', fun b o hw hp e => y.temp b o (x.temp b o hw hp e).2 hp (x.temp b o hw hp e).1⟩
theorem Ext.weaken {P P' : Addr → Prop} {s s' : Shared} {W W' : Wd} (x : Ext P s W s' W') (h : ∀ b, P b → P' b) : Ext P' s W s' W' :=
  ⟨x.keep, x.mach, fun b o hw hp e => x.turn b o hw (fun q => hp (h b q)) e, x.nofld, fun b o hw hp e => x.temp b o hw (fun q => hp (h b q)) e⟩
theorem Ext.keeps {P : Addr → Prop} {s s' : Shared} {W W' : Wd} (x : Ext P s W s' W') : Keeps W s.heap W' s'.heap := x.keep
theorem Ext.rep {cA} {P : Addr → Prop} {s s' : Shared} {W W' : Wd} (x : Ext P s W s' W') {a : V} {v : Value} (r : Rep cA s.heap W a v) : Rep cA s'.heap W' a v := Rep.keeps x.keep a r
theorem Ext.reps {cA} {P : Addr → Prop} {s s' : Shared} {W W' : Wd} (x : Ext P s W s' W') {a : List V} {v : List Value} (r : Reps cA s.heap W a v) : Reps cA s'.heap W' a v := Reps.keeps x.keep a r
theorem Ext.of_keeps {P : Addr → Prop} {s s' : Shared} {W : Wd} (k : ∀ b o, s.heap.get? b = some o → s'.heap.get? b = some o) : Ext P s W s' W :=
  ⟨fun b o hw e => ⟨k b o e, hw⟩, fun _ h => h, fun b o _ _ e => ⟨o.slots, k b o e⟩, fun b o _ e h => ⟨o, k b o e, h⟩, fun b o hw _ e => ⟨k b o e, hw⟩⟩
section
variable {cA prog w base g₀ o₀}
theorem ObjAt.keeps {h h' : Heap} {W W' : Wd} {t : Tag} {a : Addr} {o : O} (k : Keeps W h W' h') (x : ObjAt cA prog w h W t a o)
    (hk : ∀ b ob, W b = some (.obj t) → h.get? b = some ob → h'.get? b = some ob ∧ W' b = some (.obj t)) : ObjAt cA prog w h' W' t a o := by
  cases o with
  | list xs =>
    refine @bc _ fun k_ => ?_
    obtain ⟨w, vs, ⟨ob, e⟩, n, q⟩ := x
    apply k_; clear k_
    exact ⟨(hk a _ w e).2, vs, ⟨ob, (hk a _ w e).1⟩, n, Reps.keeps k xs q⟩
  | inst c xs =>
    refine @bc _ fun k_ => ?_
    obtain ⟨w, dx, es, n, w', hne, e1, e2, q1, q2⟩ := x
    apply k_; clear k_
    exact ⟨(hk a _ w e1).2, dx, es, n, (hk dx _ w' e2).2, hne, (hk a _ w e1).1, (hk dx _ w' e2).1, q1, Reps.keeps k xs q2⟩
  | dict m =>
    refine @bc _ fun k_ => ?_
    obtain ⟨w, h0, ps, hd, q⟩ := x
    apply k_; clear k_
    obtain ⟨ob, e⟩ : ∃ ob, h.get? a = some ob := let ⟨o, _, _, e, _⟩ := hd; ⟨o, e⟩
    exact ⟨(hk a ob w e).2, h0, ps, hd.at fun o q => (by rw [e] at q; cases q; exact (hk a ob w e).1), PRep.keeps cA k q⟩
theorem StOk.grow {s s' : Shared} {W : Wd} {H : St} (x : StOk cA prog w base g₀ o₀ s W H) (k : ∀ b o, s.heap.get? b = some o → s'.heap.get? b = some o)
    (hg : s'.gens = s.gens := by rfl) (ho : s'.os = s.os := by rfl) : StOk cA prog w base g₀ o₀ s' W H :=
  ⟨fun b o e => k b o (x.keep b o e), x.wbase, fun b hw => let ⟨o, e⟩ := x.live b hw; ⟨o, k b o e⟩, fun t a o e => (x.objs t a o e).keeps (fun b ob hw eb => ⟨k b ob eb, hw⟩) fun b ob hw eb => ⟨k b ob eb, hw⟩,
    hg.trans x.gens, ho.trans x.os⟩
theorem StOk.machine {s s' : Shared} {W : Wd} {H : St} {I : Addr} (x : StOk cA prog w base g₀ o₀ s W H) (hI : W I = some .mach) (k : ∀ b o, b ≠ I → s.heap.get? b = some o → s'.heap.get? b = some o) (hl : ∃ o, s'.heap.get? I = some o)
    (hg : s'.gens = s.gens := by rfl) (ho : s'.os = s.os := by rfl) : StOk cA prog w base g₀ o₀ s' W H :=
  have ne : ∀ b, W b ≠ some .mach → b ≠ I := fun b hw q => hw (q ▸ hI)
  ⟨fun b o e => k b o (ne b (by rw [x.wbase b o e]; exact fun q => by cases q)) (x.keep b o e), x.wbase, fun b hw => by
      by_cases q : b = I
      · subst q; exact hl
      · obtain ⟨o, e⟩ := x.live b hw; exact ⟨o, k b o q e⟩,
    fun t a o e => (x.objs t a o e).keeps (fun b ob hw eb => ⟨k b ob (ne b (by rw [hw]; exact fun q => by cases q)) eb, hw⟩) fun b ob hw eb => ⟨k b ob (ne b (by rw [hw]; exact fun q => by cases q)) eb, hw⟩,
    hg.trans x.gens, ho.trans x.os⟩
theorem Ext.machine {P : Addr → Prop} {s s' : Shared} {W : Wd} {I : Addr} (hI : W I = some .mach) (hP : P I) (k : ∀ b o, b ≠ I → s.heap.get? b = some o → s'.heap.get? b = some o)
    (hf : ∀ o, s.heap.get? I = some o → (∀ vs, o.data ≠ .fields vs) → ∃ o', s'.heap.get? I = some o' ∧ ∀ vs, o'.data ≠ .fields vs) : Ext P s W s' W :=
  ⟨fun b o hw e => ⟨k b o (fun q => by rw [q, hI] at hw; cases hw) e, hw⟩, fun _ h => h, fun b o _ hp e => ⟨o.slots, k b o (fun q => hp (q ▸ hP)) e⟩, fun b o _ e h => by
    by_cases q : b = I
    · subst q; exact hf o e h
    · exact ⟨o, k b o q e, h⟩, fun b o hw _ e => ⟨k b o (fun q => by rw [q, hI] at hw; cases hw) e, hw⟩⟩
noncomputable def Wd.put (W : Wd) (a : Addr) (o : Own) : Wd := fun b => if b = a then some o else W b
theorem Wd.put_self (W : Wd) (a : Addr) (o : Own) : W.put a o a = some o := by simp [Wd.put]
theorem Wd.put_ne (W : Wd) {a b : Addr} (o : Own) (h : b ≠ a) : W.put a o b = W b := by simp [Wd.put, h]
theorem StOk.free {s : Shared} {W : Wd} {H : St} (x : StOk cA prog w base g₀ o₀ s W H) {a : Addr} (h : s.heap.get? a = none) : W a = .none := by
  cases q : W a with
  | none => rfl
  | some o => obtain ⟨o', e⟩ := x.live a (by rw [q]; exact fun q => by cases q); rw [h] at e; cases e
theorem size_free (h : Heap) : h.get? h.objs.size = none := by
  cases q : h.get? h.objs.size with
  | none => rfl
  | some o => exact absurd (Heap.lt_size q) (Nat.lt_irrefl _)
theorem StOk.fresh {s : Shared} {W : Wd} {H : St} (x : StOk cA prog w base g₀ o₀ s W H) : W s.heap.objs.size = .none := x.free (size_free _)
theorem StOk.owned {s s' : Shared} {W : Wd} {H : St} {I : Addr} {ow : Own} (x : StOk cA prog w base g₀ o₀ s W H) (hI : s.heap.get? I = none) (k : ∀ b o, s.heap.get? b = some o → s'.heap.get? b = some o) (hl : ∃ o, s'.heap.get? I = some o)
    (hg : s'.gens = s.gens := by rfl) (ho : s'.os = s.os := by rfl) : StOk cA prog w base g₀ o₀ s' (W.put I ow) H :=
  have ne : ∀ b o, s.heap.get? b = some o → b ≠ I := fun b o e q => by rw [q, hI] at e; cases e
  ⟨fun b o e => k b o (x.keep b o e), fun b o e => by rw [Wd.put_ne _ _ (ne b o (x.keep b o e))]; exact x.wbase b o e, fun b hw => by
      by_cases q : b = I
      · subst q; exact hl
      · rw [Wd.put_ne _ _ q] at hw; obtain ⟨o, e⟩ := x.live b hw; exact ⟨o, k b o e⟩,
    fun t a o e => (x.objs t a o e).keeps (fun b ob hw eb => ⟨k b ob eb, by rw [Wd.put_ne _ _ (ne b ob eb)]; exact hw⟩) fun b ob hw eb => ⟨k b ob eb, by rw [Wd.put_ne _ _ (ne b ob eb)]; exact hw⟩,
    hg.trans x.gens, ho.trans x.os⟩
theorem Ext.owned {P : Addr → Prop} {s s' : Shared} {W : Wd} {I : Addr} {ow : Own} (hI : s.heap.get? I = none) (hW : W I = .none) (k : ∀ b o, s.heap.get? b = some o → s'.heap.get? b = some o) : Ext P s W s' (W.put I ow) :=
  have ne : ∀ b o, s.heap.get? b = some o → b ≠ I := fun b o e q => by rw [q, hI] at e; cases e
  ⟨fun b o hw e => ⟨k b o e, by rw [Wd.put_ne _ _ (ne b o e)]; exact hw⟩, fun b h => by rw [Wd.put_ne _ _ (fun q => by rw [q, hW] at h; cases h)]; exact h, fun b o _ _ e => ⟨o.slots, k b o e⟩, fun b o _ e h => ⟨o, k b o e, h⟩, fun b o hw _ e => ⟨k b o e, by rw [Wd.put_ne _ _ (ne b o e)]; exact hw⟩⟩
end
end
end Mine
set_option backward.match.sparseCases false
namespace Mine
open PySem PySem.W PyProof.Rows PySem.SeqAt
theorem lim_eq : lim = sizeLine := rfl
structure Room (A : Around) (k : Nat) : Prop where
  handled : A.handled = .none
  units : A.units + 100 * k + 200 < cLine
  depth : A.depth + 4 * k + 10 < recursionLimit
noncomputable def NP : Addr → Prop := fun _ => False
noncomputable def fTab : List Nat := [48, 55, 62, 69, 76, 83, 90, 97, 104, 111, 119, 127, 134, 177, 300, 307, 314, 321, 328, 335, 342, 370, 375, 382, 387, 392, 399, 413, 420, 448, 455, 460, 467, 481, 488, 495, 509, 516, 523, 530, 896, 903, 910, 917, 924, 929, 204, 211, 218, 225, 239, 246, 253, 260, 434, 356, 544, 551, 565, 572, 579, 586, 593, 635, 642, 663, 670, 677, 741, 776, 790, 797, 811, 825, 844, 865, 872, 877]
@[irreducible] noncomputable def fA (f : Fn) : Addr := (fTab[f.i.1]?).getD 0
@[irreducible] noncomputable def cA : Cls → Addr
  | .gap => 617
  | .markers => 687
  | .buffer => 828
  | .ulist => 282
  | .recording => 887
  | .undoing => 437
  | .beside => 359
  | .piece => 847
noncomputable abbrev xA : Addr := 38
noncomputable abbrev iA : Addr := 35
noncomputable abbrev prog : Program := PySem.Challenge.pw_pq0309_01
section
variable {w : World} {base : Heap} {g₀ : Array GenState} {o₀ : OsState}
variable {A : Around} {E : Value → Shared → Prop} {s : Shared} {W : Wd} {H : St}
noncomputable def Ok1 (cA : Cls → Addr) (prog : Program) (w : World) (base : Heap) (g₀ : Array GenState) (o₀ : OsState) (s : Shared) (W : Wd) (H : St) (x : V) (v : Value) (s' : Shared) : Prop :=
  Ext NP s W s' W ∧ StOk cA prog w base g₀ o₀ s' W H ∧ Rep cA s'.heap W x v
variable (S : StOk cA prog w base g₀ o₀ s W H)
include S
theorem Ok1.toks {x : V} {v : Value} {t : Nat} (r : Rep cA s.heap W x v) : Ok1 cA prog w base g₀ o₀ s W H x v { s with toks := t } :=
  ⟨Ext.of_keeps (fun _ _ e => e), S.grow (fun _ _ e => e), r⟩
theorem Ok1.same {x : V} {v : Value} (r : Rep cA s.heap W x v) : Ok1 cA prog w base g₀ o₀ s W H x v s := ⟨Ext.refl .., S, r⟩
theorem Ok1.heap {x : V} {v : Value} {h' : Heap} {t : Nat} (k : ∀ b o, s.heap.get? b = some o → h'.get? b = some o) (r : Rep cA h' W x v) : Ok1 cA prog w base g₀ o₀ s W H x v { s with heap := h', toks := t } :=
  ⟨Ext.of_keeps k, S.grow k, r⟩
theorem itemsV_at {x : V} {v : Value} {xs : List V} (r : Rep cA s.heap W x v) (e : itemsV H x = some xs) : ∃ a vs, v = .ref a ∧ s.heap.PlainList a vs.toArray ∧ vs.length ≤ lim ∧ Reps cA s.heap W xs vs := by
  cases x <;> simp only [itemsV] at e
  case lst ys =>
    have e_ := Option.some.inj e
    subst e_
    refine @bc _ fun k_ => ?_
    obtain ⟨a, vs, e1, _, hl, n, q⟩ := r
    apply k_; clear k_
    exact ⟨a, vs, e1, hl, n, q⟩
  case ref t a =>
    split at e
    · rename_i a' ys hH
      split at e
      · rename_i ha
        have e_ := Option.some.inj e
        subst e_
        subst ha
        refine @bc _ fun k_ => ?_
        obtain ⟨_, vs, hl, n, q⟩ := S.objs t a' _ hH
        apply k_; clear k_
        exact ⟨a', vs, r, hl, n, q⟩
      · cases e
    · cases e
  all_goals cases e
theorem seqV_at {x : V} {v : Value} {xs : List V} (r : Rep cA s.heap W x v) (e : seqV H x = some xs) : ∃ a vs, v = .ref a ∧ (s.heap.IsList a vs.toArray ∨ IsTup s.heap a vs.toArray) ∧ vs.length ≤ lim ∧ Reps cA s.heap W xs vs := by
  cases x
  case tup ys =>
    have e_ := Option.some.inj e
    subst e_
    refine @bc _ fun k_ => ?_
    obtain ⟨a, vs, e1, _, hl, n, q⟩ := r
    apply k_; clear k_
    exact ⟨a, vs, e1, .inr hl, n, q⟩
  all_goals
    obtain ⟨a, vs, e1, hl, n, q⟩ := itemsV_at S r e
    exact ⟨a, vs, e1, .inl hl.isList, n, q⟩
omit S
theorem reads_int {x : Int} {v : Value} (r : Rep cA s.heap W (.int x) v) : ∃ t, v = .int x t := r
theorem eqVs_step {f : V → V → Option Bool} {whole b : Bool} {x y : V} {xs ys : List V} {P : Prop} (e : eqVs f whole (x :: xs) (y :: ys) = some b) (k : ∀ c, f x y = some c → eqVs f (whole && c) xs ys = some b → P) : P := by
  have e : (match f x y with | some c => eqVs f (whole && c) xs ys | .none => .none) = some b := e
  cases hc : f x y with
  | none => rw [hc] at e; cases e
  | some c => rw [hc] at e; exact k c hc e
theorem eqVs_at {f : V → V → Option Bool} {A : Around} (hf : ∀ x y v u b, Rep cA s.heap W x v → Rep cA s.heap W y u → f x y = some b → EqAt A s v u b) {xs : List V} {vs : List Value} (rx : Reps cA s.heap W xs vs) : ∀ {whole : Bool} {ys : List V} {us : List Value} {b : Bool}, Reps cA s.heap W ys us → eqVs f whole xs ys = some b →
    ∃ g : Nat → Bool, (∀ j v u, vs[j]? = some v → us[j]? = some u → EqAt A s v u (g j)) ∧ b = (whole && ((List.range (min vs.length us.length)).all g && vs.length == us.length)) := by
  refine Reps.ind (P := fun xs vs => ∀ {whole : Bool} {ys : List V} {us : List Value} {b : Bool}, Reps cA s.heap W ys us → eqVs f whole xs ys = some b →
    ∃ g : Nat → Bool, (∀ j v u, vs[j]? = some v → us[j]? = some u → EqAt A s v u (g j)) ∧ b = (whole && ((List.range (min vs.length us.length)).all g && vs.length == us.length))) ?_ ?_ rx
  · intro whole ys us b ry e
    refine ⟨fun _ => true, fun j v u h => (by cases h), ?_⟩
    cases ys with
    | nil =>
      cases us with
      | nil => cases e; simp
      | cons => exact ry.elim
    | cons =>
      cases us with
      | nil => exact ry.elim
      | cons => cases e; simp
  · intro x xs v vs r1 _ ih whole ys us b ry e
    cases ys with
    | nil =>
      cases us with
      | nil => exact ⟨fun _ => true, fun j v u _ h => by (cases h), by cases e; simp⟩
      | cons => exact ry.elim
    | cons y ys =>
      cases us with
      | nil => exact ry.elim
      | cons u us =>
        refine eqVs_step e fun c hc e => ?_
        have E1 := hf _ _ _ _ _ r1 ry.1 hc
        refine @bc _ fun k_ => ?_
        obtain ⟨g, hg, he⟩ := ih ry.2 e
        apply k_; clear k_
        refine ⟨fun j => match j with | 0 => c | j + 1 => g j, fun j v' u' hv hu' => ?_, ?_⟩
        · cases j with
          | zero => cases hv; cases hu'; exact E1
          | succ j => exact hg j v' u' hv hu'
        · rw [he]
          have : min (vs.length + 1) (us.length + 1) = min vs.length us.length + 1 := by (first | lia | omega)
          simp only [List.length_cons, this, List.range_succ_eq_map, List.all_cons, List.all_map]
          have e2 : ((vs.length + 1 == us.length + 1) : Bool) = (vs.length == us.length) := by simp
          rw [e2]
          have e3 : ((fun j => match j with | 0 => c | j + 1 => g j) ∘ Nat.succ) = g := by funext j; rfl
          rw [e3]
          simp [Bool.and_assoc]
theorem eqVs_refl {f : V → V → Option Bool} (hf : ∀ x y v b, Rep cA s.heap W x v → Rep cA s.heap W y v → f x y = some b → b = true) {xs : List V} {vs : List Value} (rx : Reps cA s.heap W xs vs) : ∀ {ys : List V} {b : Bool}, Reps cA s.heap W ys vs → eqVs f true xs ys = some b → b = true := by
  refine Reps.ind (P := fun xs vs => ∀ {ys : List V} {b : Bool}, Reps cA s.heap W ys vs → eqVs f true xs ys = some b → b = true) ?_ ?_ rx
  · intro ys b ry e
    cases ys with
    | nil => cases e; rfl
    | cons => exact ry.elim
  · intro x xs v vs r1 _ ih ys b ry e
    cases ys with
    | nil => exact ry.elim
    | cons y ys =>
      refine eqVs_step e fun c hc e => ?_
      obtain rfl := hf _ _ _ _ r1 ry.1 hc
      exact ih ry.2 e
theorem list_same {h : Heap} {a : Addr} {vs us : List Value} (hl : h.IsList a vs.toArray) (hl' : h.IsList a us.toArray) : vs = us := by
  refine @bc _ fun k_ => ?_
  obtain ⟨o, e1, _, n1, d1⟩ := hl
  obtain ⟨o', e2, _, n2, d2⟩ := hl'
  apply k_; clear k_
  rw [e1] at e2; cases e2; rw [d1] at d2; cases d2; rfl
theorem tup_same {h : Heap} {a : Addr} {vs us : List Value} (hl : IsTup h a vs.toArray) (hl' : IsTup h a us.toArray) : vs = us := by
  refine @bc _ fun k_ => ?_
  obtain ⟨o, e1, _, n1, d1⟩ := hl
  obtain ⟨o', e2, _, n2, d2⟩ := hl'
  apply k_; clear k_
  rw [e1] at e2; cases e2; rw [d1] at d2; cases d2; rfl
inductive IntsIs (x y : V) (f : Int → Int → Option V) (z : V) : Prop | mk (a b : Int) (h : x = .int a) (h' : y = .int b) (e : f a b = some z)
theorem ints2_is {x y z : V} {f : Int → Int → Option V} (h : ints2 x y f = some z) : IntsIs x y f z := by
  refine @bc _ fun k_ => ?_
  obtain ⟨a, ha, h⟩ := bind_is h
  obtain ⟨b, hb, h⟩ := bind_is h
  apply k_; clear k_
  exact ⟨a, b, intV_eq ha, intV_eq hb, h⟩
theorem eqV_cases {P : V → V → Bool → Prop} {n : Nat} {x y : V} {b : Bool} (e : eqV (n + 1) x y = some b) (nn : P .none .none true) (ni : ∀ i, P .none (.int i) false) (im : ∀ i, P (.int i) .none false)
    (bb : ∀ a c, P (.bool a) (.bool c) (a == c)) (ii : ∀ a c, P (.int a) (.int c) (decide (a = c))) (ss : ∀ a c, P (.str a) (.str c) (decide (a = c))) (tt : ∀ xs ys b, eqVs (eqV n) true xs ys = some b → P (.tup xs) (.tup ys) b)
    (ll : ∀ xs ys b, (if xs.length = ys.length then eqVs (eqV n) true xs ys else some false) = some b → P (.lst xs) (.lst ys) b) : P x y b := by
  cases x with
  | none =>
    obtain ⟨c, hc, rfl⟩ := map_is e
    rw [maybeV_eq hc]
    cases c with
    | none => exact nn
    | some c => exact ni c
  | int a =>
    obtain ⟨c, hc, rfl⟩ := map_is e
    simp only [maybeV_eq hc]
    cases c with
    | none => exact im a
    | some c => exact ii a c
  | bool a => obtain ⟨c, hc, rfl⟩ := map_is e; rw [boolV_eq hc]; exact bb a c
  | str a => obtain ⟨c, hc, rfl⟩ := map_is e; rw [strV_eq hc]; exact ss a c
  | tup a => obtain ⟨c, hc, e⟩ := bind_is e; rw [tupV_eq hc]; exact tt a c b e
  | lst a => obtain ⟨c, hc, e⟩ := bind_is e; rw [lstV_eq hc]; exact ll a c b e
  | _ => cases e
theorem eqV_refl (n : Nat) : ∀ {x y : V} {v : Value} {b : Bool}, Rep cA s.heap W x v → Rep cA s.heap W y v → eqV n x y = some b → b = true := by
  induction n with
  | zero => intro x y v b rx ry e; cases e
  | succ n ih =>
    intro x y v b rx ry e
    revert rx ry
    refine eqV_cases (P := fun x y b => Rep cA s.heap W x v → Rep cA s.heap W y v → b = true) e ?_ ?_ ?_ ?_ ?_ ?_ ?_ ?_
    · exact fun _ _ => rfl
    · exact fun i rx ry => by obtain rfl := rx; obtain ⟨t, h⟩ := ry; cases h
    · exact fun i rx ry => by obtain ⟨t, rfl⟩ := rx; cases ry
    · exact fun a c rx ry => by obtain rfl := rx; cases ry; exact beq_self_eq_true _
    · exact fun a c rx ry => by obtain ⟨t, rfl⟩ := rx; obtain ⟨t', h⟩ := ry; cases h; exact decide_eq_true rfl
    · intro a c rx ry
      obtain ⟨t, rfl⟩ := rx; obtain ⟨t', h⟩ := ry
      rw [← Word.str_inj]
      injection h with h1 h2
      rw [h1]; exact beq_self_eq_true _
    · intro xs ys b e rx ry
      refine @bc _ fun k_ => ?_
      obtain ⟨a, vs, e0_, _, hl, _, qx⟩ := rx
      apply k_; clear k_
      subst e0_
      refine @bc _ fun k_ => ?_
      obtain ⟨a', us, h, _, hl', _, qy⟩ := ry
      apply k_; clear k_
      cases h
      obtain rfl := tup_same hl hl'
      exact eqVs_refl (fun _ _ _ _ r1 r2 e => ih r1 r2 e) qx qy e
    · intro xs ys b e rx ry
      refine @bc _ fun k_ => ?_
      obtain ⟨a, vs, e0_, _, hl, _, qx⟩ := rx
      apply k_; clear k_
      subst e0_
      refine @bc _ fun k_ => ?_
      obtain ⟨a', us, h, _, hl', _, qy⟩ := ry
      apply k_; clear k_
      cases h
      obtain rfl := list_same hl.isList hl'.isList
      rw [if_pos (by rw [qx.length, qy.length])] at e
      exact eqVs_refl (fun _ _ _ _ r1 r2 e => ih r1 r2 e) qx qy e
theorem eqLists_at {n : Nat} {A : Around} {xs ys : List V} {a a' : Addr} {vs us : List Value} {b : Bool} (ih : ∀ {A : Around} {x y : V} {v u : Value} {b : Bool}, A.units + n < cLine → Rep cA s.heap W x v → Rep cA s.heap W y u → eqV n x y = some b → EqAt A s v u b)
    (hu : A.units + (n + 1) < cLine) (hl : s.heap.IsList a vs.toArray) (hl' : s.heap.IsList a' us.toArray) (qx : Reps cA s.heap W xs vs) (qy : Reps cA s.heap W ys us)
    (e : (if xs.length = ys.length then eqVs (eqV n) true xs ys else some false) = some b) : RcAt A s (.ref a) (.ref a') b := by
  have l1 := qx.length; have l2 := qy.length
  split at e
  · rename_i hlen
    obtain ⟨f, hf, he⟩ := eqVs_at (A := A.in1) (fun _ _ _ _ _ r1 r2 e => ih (by simp; (first | lia | omega)) r1 r2 e) qx qy e
    have := RcAt.lists (A := A) (e := f) hl hl' (by simp; (first | lia | omega)) (by (first | lia | omega)) (fun j h1 h2 => by
      have := hf j (vs[j]'(by simpa using h1)) (us[j]'(by simpa using h2)) (by simp) (by simp)
      simpa using this)
    simp only [he]
    have e1 : vs.length = us.length := by (first | lia | omega)
    simpa [e1] using this
  · rename_i hlen
    have e_ := Option.some.inj e
    subst e_
    exact RcAt.lists_lengths hl hl' (by simp; (first | lia | omega)) (by (first | lia | omega))
theorem at_refs {n : Nat} {A : Around} {x y : V} {v u : Value} {b : Bool} (rx : Rep cA s.heap W x v) (ry : Rep cA s.heap W y u) (e : eqV n x y = some b) (R : RcAt A s v u b) (hv : ∃ a, v = .ref a) (hu : ∃ a, u = .ref a) : EqAt A s v u b := by
  obtain ⟨a, rfl⟩ := hv
  obtain ⟨a', rfl⟩ := hu
  by_cases hne : a = a'
  · subst hne
    obtain rfl := eqV_refl n rx ry e
    exact EqAt.same _
  · exact EqAt.of_refs hne R
theorem eqV_at (n : Nat) : ∀ {A : Around} {x y : V} {v u : Value} {b : Bool}, A.units + n < cLine → Rep cA s.heap W x v → Rep cA s.heap W y u → eqV n x y = some b → RcAt A s v u b ∧ EqAt A s v u b := by
  induction n with
  | zero => intro A x y v u b hu rx ry e; cases e
  | succ n ih =>
    intro A x y v u b hu rx ry e
    have e0 := e
    revert rx ry e0
    refine eqV_cases (P := fun x y b => Rep cA s.heap W x v → Rep cA s.heap W y u → eqV (n + 1) x y = some b → RcAt A s v u b ∧ EqAt A s v u b) e ?_ ?_ ?_ ?_ ?_ ?_ ?_ ?_
    · exact fun rx ry _ => by obtain rfl := rx; obtain rfl := ry; exact ⟨RcAt.none_none, EqAt.same _⟩
    · exact fun i rx ry _ => by obtain rfl := rx; obtain ⟨t, rfl⟩ := ry; exact ⟨RcAt.none_int _ _, EqAt.none_int _ _⟩
    · exact fun i rx ry _ => by obtain ⟨t, rfl⟩ := rx; obtain rfl := ry; exact ⟨RcAt.int_none _ _, EqAt.int_none _ _⟩
    · exact fun a c rx ry _ => by obtain rfl := rx; obtain rfl := ry; exact ⟨RcAt.bool_bool _ _, EqAt.bool_bool _ _⟩
    · exact fun a c rx ry _ => by obtain ⟨t, rfl⟩ := rx; obtain ⟨t', rfl⟩ := ry; exact ⟨RcAt.int_int a t c t', EqAt.int_int a t c t'⟩
    · intro a c rx ry _
      obtain ⟨t, rfl⟩ := rx; obtain ⟨t', rfl⟩ := ry
      rw [← Word.str_inj]
      exact ⟨RcAt.str_str _ _ _ _, EqAt.str_str _ _ _ _⟩
    · intro xs ys b e rx ry e0
      have R : RcAt A s v u b := by
        refine @bc _ fun k_ => ?_
        obtain ⟨a, vs, e0_, wa, hl, na, qx⟩ := rx
        apply k_; clear k_
        subst e0_
        refine @bc _ fun k_ => ?_
        obtain ⟨a', us, e0_, wb, hl', nb, qy⟩ := ry
        apply k_; clear k_
        subst e0_
        obtain ⟨f, hf, he⟩ := eqVs_at (A := A.in1) (fun _ _ _ _ _ r1 r2 e => (ih (by simp; (first | lia | omega)) r1 r2 e).2) qx qy e
        have := RcAt.tuples (A := A) (e := f) hl hl' (by (first | lia | omega)) (fun j h1 h2 => by
          have := hf j (vs[j]'(by simpa using h1)) (us[j]'(by simpa using h2)) (by simp) (by simp)
          simpa using this)
        simp only [he]
        simpa using this
      exact ⟨R, at_refs rx ry e0 R (rx.elim fun a h => h.elim fun vs h => ⟨a, h.1⟩) (ry.elim fun a h => h.elim fun vs h => ⟨a, h.1⟩)⟩
    · intro xs ys b e rx ry e0
      have R : RcAt A s v u b := by
        refine @bc _ fun k_ => ?_
        obtain ⟨a, vs, e0_, wa, hl, na, qx⟩ := rx
        apply k_; clear k_
        subst e0_
        refine @bc _ fun k_ => ?_
        obtain ⟨a', us, e0_, wb, hl', nb, qy⟩ := ry
        apply k_; clear k_
        subst e0_
        exact eqLists_at (fun h r1 r2 e => (ih h r1 r2 e).2) hu hl.isList hl'.isList qx qy e
      exact ⟨R, at_refs rx ry e0 R (rx.elim fun a h => h.elim fun vs h => ⟨a, h.1⟩) (ry.elim fun a h => h.elim fun vs h => ⟨a, h.1⟩)⟩
include S in
theorem eqH_at {x y : V} {v u : Value} {b : Bool} (R : Room A 0) (rx : Rep cA s.heap W x v) (ry : Rep cA s.heap W y u) (e : eqH H x y = some b) : RcAt A s v u b := by
  have hu := R.units
  unfold eqH at e
  split at e
  · rename_i t a
    split at e
    · rename_i xs hx
      refine @bc _ fun k_ => ?_
      obtain ⟨a', vs, e0_, hl, n, q⟩ := itemsV_at S rx hx
      apply k_; clear k_
      subst e0_
      cases y
      case lst ys =>
        refine @bc _ fun k_ => ?_
        obtain ⟨a'', us, e0_, _, hl', _, qy⟩ := ry
        apply k_; clear k_
        subst e0_
        exact eqLists_at (fun h r1 r2 e => (eqV_at 7 h r1 r2 e).2) (by (first | lia | omega)) hl.isList hl'.isList q qy e
      all_goals cases e
    · cases e
  · exact (eqV_at 8 (by (first | lia | omega)) rx ry e).1
theorem lift2 {t : Sem Value} {Q Q' : Value → Shared → Prop} (h : wpAny (model prog w) A t Q E s) (k : ∀ v s', Q v s' → Q' v s') : wpAny (model prog w) A t Q' E s := wpAny_mono h k fun _ _ h => h
theorem fdiv_eq {a b : Int} (h : 0 < b) : a.fdiv b = a / b := by
  rw [Int.fdiv_eq_ediv_of_nonneg _ (by (first | lia | omega))]
theorem fmod_eq {a b : Int} (h : 0 < b) : a.fmod b = a % b := by
  rw [Int.fmod_eq_emod_of_nonneg _ (by (first | lia | omega))]
include S in
theorem bin_add {a b : Int} {v u : Value} (rx : Rep cA s.heap W (.int a) v) (ry : Rep cA s.heap W (.int b) u) : wpAny (model prog w) A (binaryOp .Add v u) (Ok1 cA prog w base g₀ o₀ s W H (.int (a + b))) E s := by
  obtain ⟨t, rfl⟩ := rx; obtain ⟨t', rfl⟩ := ry
  exact PySem.P.add_int (Ok1.toks S ⟨_, rfl⟩)
include S in
theorem bin_sub {a b : Int} {v u : Value} (rx : Rep cA s.heap W (.int a) v) (ry : Rep cA s.heap W (.int b) u) : wpAny (model prog w) A (binaryOp .Sub v u) (Ok1 cA prog w base g₀ o₀ s W H (.int (a - b))) E s := by
  obtain ⟨t, rfl⟩ := rx; obtain ⟨t', rfl⟩ := ry
  exact PySem.P.sub_int (Ok1.toks S ⟨_, rfl⟩)
include S in
theorem bin_mul {a b : Int} {v u : Value} (rx : Rep cA s.heap W (.int a) v) (ry : Rep cA s.heap W (.int b) u) (h : (smallI a || smallI b) = true) : wpAny (model prog w) A (binaryOp .Mult v u) (Ok1 cA prog w base g₀ o₀ s W H (.int (a * b))) E s := by
  obtain ⟨t, rfl⟩ := rx; obtain ⟨t', rfl⟩ := ry
  refine PySem.P.mul_int (Ok1.toks S ⟨_, rfl⟩) ?_
  rw [Bool.or_eq_true] at h
  rcases h with h | h
  · have := of_decide_eq_true h
    exact IntMulOk.of_left (intBits_le_64 (by (first | lia | omega)) (by (first | lia | omega)))
  · have := of_decide_eq_true h
    exact IntMulOk.of_right (intBits_le_64 (by (first | lia | omega)) (by (first | lia | omega)))
include S in
theorem bin_fdiv {a b : Int} {v u : Value} (rx : Rep cA s.heap W (.int a) v) (ry : Rep cA s.heap W (.int b) u) (h : 0 < b) (h' : b < 1073741824) : wpAny (model prog w) A (binaryOp .FloorDiv v u) (Ok1 cA prog w base g₀ o₀ s W H (.int (a / b))) E s := by
  obtain ⟨t, rfl⟩ := rx; obtain ⟨t', rfl⟩ := ry
  refine PyProof.Rows.floordiv_int (by (first | lia | omega)) ?_ (.inl (PyProof.noPylong_small (by (first | lia | omega))))
  rw [fdiv_eq h]
  exact Ok1.toks S ⟨_, rfl⟩
include S in
theorem bin_mod {a b : Int} {v u : Value} (rx : Rep cA s.heap W (.int a) v) (ry : Rep cA s.heap W (.int b) u) (h : 0 < b) : wpAny (model prog w) A (binaryOp .Mod v u) (Ok1 cA prog w base g₀ o₀ s W H (.int (a % b))) E s := by
  obtain ⟨t, rfl⟩ := rx; obtain ⟨t', rfl⟩ := ry
  refine PyProof.Rows.mod_int' (by (first | lia | omega)) ?_
  rw [fmod_eq h]
  exact Ok1.toks S ⟨_, rfl⟩
include S in
theorem cmp_lt {a b : Int} {v u : Value} (rx : Rep cA s.heap W (.int a) v) (ry : Rep cA s.heap W (.int b) u) : wpAny (model prog w) A (compareOp .Lt v u) (Ok1 cA prog w base g₀ o₀ s W H (.bool (decide (a < b)))) E s := by
  obtain ⟨t, rfl⟩ := rx; obtain ⟨t', rfl⟩ := ry
  exact PySem.P.lt_int (Ok1.same S rfl)
include S in
theorem cmp_le {a b : Int} {v u : Value} (rx : Rep cA s.heap W (.int a) v) (ry : Rep cA s.heap W (.int b) u) : wpAny (model prog w) A (compareOp .LtE v u) (Ok1 cA prog w base g₀ o₀ s W H (.bool (decide (a ≤ b)))) E s := by
  obtain ⟨t, rfl⟩ := rx; obtain ⟨t', rfl⟩ := ry
  exact PySem.P.le_int (Ok1.same S rfl)
include S in
theorem cmp_gt {a b : Int} {v u : Value} (rx : Rep cA s.heap W (.int a) v) (ry : Rep cA s.heap W (.int b) u) : wpAny (model prog w) A (compareOp .Gt v u) (Ok1 cA prog w base g₀ o₀ s W H (.bool (decide (b < a)))) E s := by
  obtain ⟨t, rfl⟩ := rx; obtain ⟨t', rfl⟩ := ry
  exact PySem.P.gt_int (Ok1.same S rfl)
include S in
theorem cmp_ge {a b : Int} {v u : Value} (rx : Rep cA s.heap W (.int a) v) (ry : Rep cA s.heap W (.int b) u) : wpAny (model prog w) A (compareOp .GtE v u) (Ok1 cA prog w base g₀ o₀ s W H (.bool (decide (b ≤ a)))) E s := by
  obtain ⟨t, rfl⟩ := rx; obtain ⟨t', rfl⟩ := ry
  exact PySem.P.ge_int (Ok1.same S rfl)
end
end Mine
set_option backward.match.sparseCases false
namespace Mine
open PySem PySem.W PyProof.Rows PySem.SeqAt PySem.Calls
section
variable {w : World} {base : Heap} {g₀ : Array GenState} {o₀ : OsState}
variable {A : Around} {E : Value → Shared → Prop} {s : Shared} {W : Wd} {H : St}
theorem intsV_at {s : Shared} {W : Wd} {xs : List V} : ∀ {vs : List Value} {ns : List Int}, Reps cA s.heap W xs vs → intsV xs = some ns → IntsAre vs ns := by
  induction xs with
  | nil =>
    intro vs ns r e
    cases vs with
    | nil => rw [← Option.some.inj e]; exact .nil
    | cons v vs => exact r.elim
  | cons x xs ih =>
    intro vs ns r e
    cases vs with
    | nil => exact r.elim
    | cons v vs =>
      obtain ⟨i, hi, e⟩ := bind_is e
      obtain ⟨ns', h, e⟩ := map_is e
      obtain ⟨a, b⟩ := r
      rw [intV_eq hi] at a
      obtain ⟨t, a⟩ := a
      rw [← e, a]
      exact .cons i t (ih b h)
theorem intsAre_get {vs : List Value} {ns : List Int} (h : IntsAre vs ns) : ∀ {i : Nat} {v : Value}, vs[i]? = some v → ∃ x, ns[i]? = some x ∧ ∃ t, v = .int x t := by
  induction h with
  | nil => exact fun e => nomatch e
  | cons n t r ih =>
    intro i v e
    cases i with
    | zero => exact ⟨n, rfl, t, (Option.some.inj e).symm⟩
    | succ i => exact ih e
variable (S : StOk cA prog w base g₀ o₀ s W H)
include S
theorem un_not {b : Bool} {v : Value} (r : Rep cA s.heap W (.bool b) v) : wpAny (model prog w) A (unaryOp .Not v) (Ok1 cA prog w base g₀ o₀ s W H (.bool (!b))) E s := by
  obtain rfl := r
  exact not_value (wpAny_truthy_bool (Ok1.same S rfl))
theorem un_neg {a : Int} {v : Value} (r : Rep cA s.heap W (.int a) v) : wpAny (model prog w) A (unaryOp .USub v) (Ok1 cA prog w base g₀ o₀ s W H (.int (-a))) E s := by
  obtain ⟨t, rfl⟩ := r
  exact PySem.P.neg_int (Ok1.toks S ⟨_, rfl⟩)
omit S in
theorem isNoneV_at {x : V} {v : Value} (r : Rep cA s.heap W x v) : isNoneV x = (v == .none) := by
  cases x
  case none => obtain rfl := r; rfl
  case bool => obtain rfl := r; rfl
  case int => obtain ⟨t, rfl⟩ := r; rfl
  case str => obtain ⟨t, rfl⟩ := r; rfl
  case ref => obtain rfl := r; rfl
  case tup => obtain ⟨a, vs, rfl, _⟩ := r; rfl
  case lst => obtain ⟨a, vs, rfl, _⟩ := r; rfl
  case inst => obtain ⟨a, dx, es, n, rfl, _⟩ := r; rfl
  case rng => obtain ⟨a, t, u, q, rfl, _⟩ := r; rfl
  case edict => obtain ⟨a, rfl, _⟩ := r; rfl
theorem un_isNone {x : V} {v : Value} {z : V} (r : Rep cA s.heap W x v) (e : ev1 H .isNone x = some z) : wpAny (model prog w) A (compareOp .Is v .none) (Ok1 cA prog w base g₀ o₀ s W H z) E s := by
  refine is_none ?_
  have : V.bool (isNoneV x) = z := Option.some.inj e
  rw [← this, isNoneV_at r]
  exact Ok1.same S rfl
theorem un_notNone {x : V} {v : Value} {z : V} (r : Rep cA s.heap W x v) (e : ev1 H .notNone x = some z) : wpAny (model prog w) A (compareOp .IsNot v .none) (Ok1 cA prog w base g₀ o₀ s W H z) E s := by
  refine isNot_none ?_
  have : V.bool (!(isNoneV x)) = z := Option.some.inj e
  rw [← this, isNoneV_at r]
  exact Ok1.same S rfl
theorem call_lenV {x : V} {v : Value} {xs : List V} (r : Rep cA s.heap W x v) (e : itemsV H x = some xs) : wpAny (model prog w) A (call (.builtin "len") [v]) (Ok1 cA prog w base g₀ o₀ s W H (.int xs.length)) E s := by
  refine @bc _ fun k_ => ?_
  obtain ⟨a, vs, e0_, hl, n, q⟩ := itemsV_at S r e
  apply k_; clear k_
  subst e0_
  have := q.length
  have hb : lim = 16777216 := rfl
  refine Calls.call_len_list hl.isList (by simp; (first | lia | omega)) ?_
  refine Ok1.toks S ⟨s.toks + 1, ?_⟩
  simp; (first | lia | omega)
theorem call_absV {a : Int} {v : Value} (r : Rep cA s.heap W (.int a) v) : wpAny (model prog w) A (call (.builtin "abs") [v]) (Ok1 cA prog w base g₀ o₀ s W H (.int (if a < 0 then -a else a))) E s := by
  obtain ⟨t, rfl⟩ := r
  exact PyProof.Rows.call_abs_int fun u tk => Ok1.toks S ⟨_, rfl⟩
theorem call_minV {a b : Int} {v u : Value} (hh : A.handled = .none) (rx : Rep cA s.heap W (.int a) v) (ry : Rep cA s.heap W (.int b) u) : wpAny (model prog w) A (call (.builtin "min") [v, u]) (Ok1 cA prog w base g₀ o₀ s W H (.int (min a b))) E s := by
  obtain ⟨t, rfl⟩ := rx; obtain ⟨t', rfl⟩ := ry
  refine min_two_ints hh fun h' tk k => ?_
  refine Ok1.heap S k ?_
  by_cases h : b < a
  · rw [if_pos h]; exact ⟨t', by rw [show min a b = b by (first | lia | omega)]⟩
  · rw [if_neg h]; exact ⟨t, by rw [show min a b = a by (first | lia | omega)]⟩
theorem call_maxV {a b : Int} {v u : Value} (hh : A.handled = .none) (rx : Rep cA s.heap W (.int a) v) (ry : Rep cA s.heap W (.int b) u) : wpAny (model prog w) A (call (.builtin "max") [v, u]) (Ok1 cA prog w base g₀ o₀ s W H (.int (max a b))) E s := by
  obtain ⟨t, rfl⟩ := rx; obtain ⟨t', rfl⟩ := ry
  refine max_two_ints hh fun h' tk k => ?_
  refine Ok1.heap S k ?_
  by_cases h : b > a
  · rw [if_pos h]; exact ⟨t', by rw [show max a b = b by (first | lia | omega)]⟩
  · rw [if_neg h]; exact ⟨t, by rw [show max a b = a by (first | lia | omega)]⟩
theorem call_sumV {xs : List V} {v : Value} {ns : List Int} (hh : A.handled = .none) (r : Rep cA s.heap W (.lst xs) v) (e : intsV xs = some ns) : wpAny (model prog w) A (call (.builtin "sum") [v]) (Ok1 cA prog w base g₀ o₀ s W H (.int ns.sum)) E s := by
  refine @bc _ fun k_ => ?_
  obtain ⟨a, vs, e0_, hw, hl, n, q⟩ := r
  apply k_; clear k_
  subst e0_
  have hi := intsV_at q e
  have hlen := hi.length
  have hlt : a < s.heap.objs.size := let ⟨_, e⟩ := hl; Heap.lt_size e
  refine call_sum_walkAnyS (wpAny_pyIter_list hl.isList ?_)
  refine ⟨_, _, _, _, _, _, _, fun i => ns.getD i 0, rfl, (Walks.list (A := A.in1) hh s.heap.objs.size a (Nat.ne_of_lt hlt) vs.toArray).toS, ⟨⟨_, Heap.get?_push_size _ rfl, rfl, rfl⟩, hl.isList.push _⟩, fun b hb => ?_, fun i v hv => ?_, fun s' t' hm => ?_⟩
  · show b < (s.heap.push _).objs.size
    rw [Heap.size_push]
    simp only [List.mem_cons, List.not_mem_nil, or_false] at hb
    rcases hb with rfl | rfl
    · exact Nat.lt_succ_self _
    · exact Nat.lt_succ_of_lt hlt
  · have hv' : vs[i]? = some v := by simpa using hv
    refine @bc _ fun k_ => ?_
    obtain ⟨x, hx, t, e⟩ := intsAre_get hi hv'
    apply k_; clear k_
    refine ⟨t, ?_⟩
    show v = .int (ns.getD i 0) t
    rw [List.getD_eq_getElem?_getD, hx]; exact e
  · have hk : ∀ b o, s.heap.get? b = some o → s'.heap.get? b = some o := fun b o e =>
      hm.heap b o (fun hI => absurd (Heap.lt_size e) (by rw [List.mem_singleton.mp hI]; exact Nat.lt_irrefl _)) (Heap.get?_push_of_some _ e)
    rw [Moved.eq_with hm]
    refine Ok1.heap S hk ⟨t', ?_⟩
    show Value.int (preSum (fun i => ns.getD i 0) vs.toArray.size) t' = _
    rw [preSum_getD, List.take_of_length_le (by simp; (first | lia | omega))]
theorem call_sortedV {v : Value} (hh : A.handled = .none) (r : Rep cA s.heap W .edict v) : wpAny (model prog w) A (call (.builtin "sorted") [v]) (Ok1 cA prog w base g₀ o₀ s W H (.lst [])) E s := by
  refine @bc _ fun k_ => ?_
  obtain ⟨d, e0_, hw, lo, hd⟩ := r
  apply k_; clear k_
  subst e0_
  have hD : s.heap.DictOf (intKind prog w) d [] := ⟨_, #[], 0, hd, ⟨rfl, rfl, rfl⟩, rfl, fun e he => by simp at he, .nil, by simp⟩
  obtain ⟨ep, hat⟩ := hD.dictAt
  refine call_function_entry kind_sorted plain_sorted entry_sorted (args_sorted1 _) ?_
  unfold Builtin.«sorted»
  refine wpAny_bind (m := checkCount "sorted" 1 1 _) (wpAny_pure ?_)
  refine wpAny_bind (kdu_collect (A := A.in1) (kdl_dict (knd := intKind prog w) (kvs := []) (ep := ep) lo) hh hat (Nat.zero_le _) fun h' tk acc hk hacc => ?_)
  have hl : acc.toList = [] := List.eq_nil_of_length_eq_zero (by rw [Array.length_toList]; exact hacc.1)
  rw [hl]
  refine wpAny_bind (wpAny_newList ?_ (Nat.zero_le _))
  have ho : (h'.push (seqObj "list" ([] : List Value).toArray 0)).get? h'.objs.size = some (seqObj "list" ([] : List Value).toArray 0) := Heap.get?_push_size _ rfl
  refine wpAny_bind (wpAny_holding (wpAny_call_entry slot_list_sort ⟨_, ho, rfl⟩ entry_list_sort (list_sort_tree ho IntsAre.nil (by decide) fun out ns' a1 a2 a3 => ⟨_, rfl, ?_⟩) (args_list_sort _)))
  refine wpAny_pure ⟨_, rfl, ?_⟩
  obtain rfl : ns' = [] := List.Perm.eq_nil a2
  have hout : out = #[] := by
    have := a1.length
    simp at this
    exact this
  subst hout
  obtain ⟨e, he⟩ : ∃ e, (sortedHeap (h'.push (seqObj "list" ([] : List Value).toArray 0)) h'.objs.size [] #[]).get? h'.objs.size = some (seqObj "list" #[] e) := sortedHeap_at ho
  refine Ok1.heap S (fun b o q => ?_) ⟨_, [], rfl, ?_, ⟨e, he⟩, Nat.zero_le _, trivial⟩
  · rw [sortedHeap_old (Nat.ne_of_lt (Heap.lt_size (hk _ _ q))) (by rw [Heap.size_push]; exact Nat.lt_succ_of_lt (Heap.lt_size (hk _ _ q)))]
    exact Heap.get?_push_of_some _ (hk _ _ q)
  · exact S.free (by
      cases q : s.heap.get? h'.objs.size with
      | none => rfl
      | some o => exact absurd (Heap.lt_size (hk _ _ q)) (Nat.lt_irrefl _))
end
end Mine
set_option backward.match.sparseCases false
namespace Mine
open PySem PySem.W PyProof.Rows PySem.SeqAt PySem.Calls
theorem rngSize (a b c : Int) (hc : c ≠ 0) : Builtin.Range.rangeSize a b c = (rngLen a b c : Nat) := by
  unfold Builtin.Range.rangeSize rngLen
  by_cases h : 0 < c
  · rw [if_pos (show c > 0 from h), if_pos h]
    split
    · have : 0 ≤ (b - a - 1) / c := Int.ediv_nonneg (by (first | lia | omega)) (by (first | lia | omega))
      omega
    · rfl
  · rw [if_neg (show ¬ c > 0 from h), if_neg h]
    by_cases h' : b < a
    · rw [if_pos (show a > b from h'), if_pos h']
      have : 0 ≤ (a - b - 1) / (-c) := Int.ediv_nonneg (by (first | lia | omega)) (by (first | lia | omega))
      omega
    · rw [if_neg (show ¬ a > b from h'), if_neg h']; rfl
theorem rngSmall {a b c : Int} (h1 : -2147483648 < a) (h2 : a < 2147483648) (h3 : -2147483648 < b) (h4 : b < 2147483648) (h5 : -2147483648 < c) (h6 : c < 2147483648) (hc : c ≠ 0) :
    Builtin.Range.small a b c = true := by
  have key : 0 ≤ Builtin.Range.rangeSize a b c ∧ Builtin.Range.rangeSize a b c ≤ 4294967296 := by
    unfold Builtin.Range.rangeSize
    split
    · split
      · have h0 : 0 ≤ (b - a - 1) / c := Int.ediv_nonneg (by (first | lia | omega)) (by (first | lia | omega))
        have h1 : (b - a - 1) / c ≤ b - a - 1 := Int.ediv_le_self _ (by (first | lia | omega))
        (first | lia | omega)
      · (first | lia | omega)
    · split
      · have h0 : 0 ≤ (a - b - 1) / (-c) := Int.ediv_nonneg (by (first | lia | omega)) (by (first | lia | omega))
        have h1 : (a - b - 1) / (-c) ≤ a - b - 1 := Int.ediv_le_self _ (by (first | lia | omega))
        (first | lia | omega)
      · (first | lia | omega)
  have fits : ∀ i : Int, -4611686018427387904 < i → i < 4611686018427387904 → Builtin.Range.rangeFitsLong i = true := by
    intro i p q
    unfold Builtin.Range.rangeFitsLong
    simp only [Bool.and_eq_true, decide_eq_true_eq]
    (first | lia | omega)
  unfold Builtin.Range.small
  rw [fits a (by (first | lia | omega)) (by (first | lia | omega)), fits b (by (first | lia | omega)) (by (first | lia | omega)), fits c (by (first | lia | omega)) (by (first | lia | omega)), fits _ (by (first | lia | omega)) (by (first | lia | omega))]
  simp only [Bool.true_and, Bool.or_eq_true]
  right
  split <;> exact fits _ (by (first | lia | omega)) (by (first | lia | omega))
section
variable {w : World} {base : Heap} {g₀ : Array GenState} {o₀ : OsState}
variable {A : Around} {E : Value → Shared → Prop} {s : Shared} {W : Wd} {H : St}
theorem neLists_at {n : Nat} {A : Around} {xs ys : List V} {a a' : Addr} {vs us : List Value} {b : Bool} (hu : A.units + (n + 1) < cLine) (hl : s.heap.IsList a vs.toArray) (hl' : s.heap.IsList a' us.toArray) (qx : Reps cA s.heap W xs vs) (qy : Reps cA s.heap W ys us)
    (e : (if xs.length = ys.length then eqVs (eqV n) true xs ys else some false) = some b) : RcNeAt A s (.ref a) (.ref a') (!b) := by
  have l1 := qx.length; have l2 := qy.length
  split at e
  · rename_i hlen
    obtain ⟨f, hf, he⟩ := eqVs_at (A := A.in1) (fun _ _ _ _ _ r1 r2 e => (eqV_at n (by simp; (first | lia | omega)) r1 r2 e).2) qx qy e
    have := RcNeAt.lists (A := A) (e := f) hl hl' (by simp; (first | lia | omega)) (by (first | lia | omega)) (fun j h1 h2 => by
      have := hf j (vs[j]'(by simpa using h1)) (us[j]'(by simpa using h2)) (by simp) (by simp)
      simpa using this)
    rw [he]
    have e1 : vs.length = us.length := by (first | lia | omega)
    simpa [e1] using this
  · rename_i hlen
    have e_ := Option.some.inj e
    subst e_
    exact RcNeAt.lists_lengths hl hl' (by simp; (first | lia | omega)) (by (first | lia | omega))
theorem neV_at (n : Nat) {A : Around} {x y : V} {v u : Value} {b : Bool} (hu : A.units + n < cLine) (rx : Rep cA s.heap W x v) (ry : Rep cA s.heap W y u) (e : eqV n x y = some b) : RcNeAt A s v u (!b) := by
  cases n with
  | zero => cases e
  | succ n =>
    revert rx ry
    refine eqV_cases (P := fun x y b => Rep cA s.heap W x v → Rep cA s.heap W y u → RcNeAt A s v u (!b)) e ?_ ?_ ?_ ?_ ?_ ?_ ?_ ?_
    · exact fun rx ry => by obtain rfl := rx; obtain rfl := ry; exact RcNeAt.none_none
    · exact fun i rx ry => by obtain rfl := rx; obtain ⟨t, rfl⟩ := ry; exact RcNeAt.none_int _ _
    · exact fun i rx ry => by obtain ⟨t, rfl⟩ := rx; obtain rfl := ry; exact RcNeAt.int_none _ _
    · exact fun a c rx ry => by obtain rfl := rx; obtain rfl := ry; exact RcNeAt.bool_bool _ _
    · exact fun a c rx ry => by obtain ⟨t, rfl⟩ := rx; obtain ⟨t', rfl⟩ := ry; exact RcNeAt.int_int a t c t'
    · intro a c rx ry
      obtain ⟨t, rfl⟩ := rx; obtain ⟨t', rfl⟩ := ry
      rw [← Word.str_inj]
      exact RcNeAt.str_str _ _ _ _
    · intro xs ys b e rx ry
      refine @bc _ fun k_ => ?_
      obtain ⟨a, vs, e0_, wa, hl, na, qx⟩ := rx
      apply k_; clear k_
      subst e0_
      refine @bc _ fun k_ => ?_
      obtain ⟨a', us, e0_, wb, hl', nb, qy⟩ := ry
      apply k_; clear k_
      subst e0_
      obtain ⟨f, hf, he⟩ := eqVs_at (A := A.in1) (fun _ _ _ _ _ r1 r2 e => (eqV_at n (by simp; (first | lia | omega)) r1 r2 e).2) qx qy e
      have := RcNeAt.tuples (A := A) (e := f) hl hl' (by (first | lia | omega)) (fun j h1 h2 => by
        have := hf j (vs[j]'(by simpa using h1)) (us[j]'(by simpa using h2)) (by simp) (by simp)
        simpa using this)
      simp only [he]
      simpa using this
    · intro xs ys b e rx ry
      refine @bc _ fun k_ => ?_
      obtain ⟨a, vs, e0_, wa, hl, na, qx⟩ := rx
      apply k_; clear k_
      subst e0_
      refine @bc _ fun k_ => ?_
      obtain ⟨a', us, e0_, wb, hl', nb, qy⟩ := ry
      apply k_; clear k_
      subst e0_
      exact neLists_at hu hl.isList hl'.isList qx qy e
theorem valueAt_rep : ∀ {kvs : List (Int × V)} {ps : List (Int × Value)} (k : Int), PRep cA s.heap W kvs ps → match dGet kvs k, valueAt ps k with
    | some x, some v => Rep cA s.heap W x v
    | .none, .none => True
    | _, _ => False
  | [], [], k, _ => by simp [dGet, valueAt]
  | (j, x) :: kvs, (i, v) :: ps, k, ⟨e, r, q⟩ => by
    subst e
    have := valueAt_rep k q
    simp only [dGet, valueAt, List.find?_cons] at this ⊢
    by_cases h : j = k
    · simpa [h] using r
    · simpa [h] using this
  | _ :: _, [], _, r => r.elim
  | [], _ :: _, _, r => r.elim
variable (S : StOk cA prog w base g₀ o₀ s W H)
include S
theorem cmp_eq {x y : V} {v u : Value} {b : Bool} (R : Room A 0) (rx : Rep cA s.heap W x v) (ry : Rep cA s.heap W y u) (e : eqH H x y = some b) : wpAny (model prog w) A (compareOp .Eq v u) (Ok1 cA prog w base g₀ o₀ s W H (.bool b)) E s :=
  eqH_at S R rx ry e prog w E _ (Ok1.same S rfl)
theorem cmp_ne {x y : V} {v u : Value} {b : Bool} (R : Room A 0) (rx : Rep cA s.heap W x v) (ry : Rep cA s.heap W y u) (e : eqH H x y = some b) : wpAny (model prog w) A (compareOp .NotEq v u) (Ok1 cA prog w base g₀ o₀ s W H (.bool (!b))) E s := by
  have hu := R.units
  have key : RcNeAt A s v u (!b) := by
    unfold eqH at e
    refine @bc _ fun k_ => ?_
    split at e <;> (apply k_; clear k_)
    · rename_i t a
      split at e
      · rename_i xs hx
        refine @bc _ fun k_ => ?_
        obtain ⟨a', vs, e0_, hl, n, q⟩ := itemsV_at S rx hx
        apply k_; clear k_
        subst e0_
        cases y
        case lst ys =>
          refine @bc _ fun k_ => ?_
          obtain ⟨a'', us, e0_, _, hl', _, qy⟩ := ry
          apply k_; clear k_
          subst e0_
          exact neLists_at (n := 7) (by (first | lia | omega)) hl.isList hl'.isList q qy e
        all_goals cases e
      · exfalso
        cases e
    · exact neV_at 8 (by (first | lia | omega)) rx ry e
  exact key prog w E _ (Ok1.same S rfl)
theorem dictV_at {x : V} {v : Value} {m : List (Int × V)} (r : Rep cA s.heap W x v) (e : dictV H x = some m) : ∃ a ps, v = .ref a ∧ (a == sysModules) = false ∧ s.heap.DictOf (intKind prog w) a ps ∧ PRep cA s.heap W m ps := by
  cases x <;> simp only [dictV] at e
  case ref t a =>
    refine @bc _ fun k_ => ?_
    split at e <;> (apply k_; clear k_)
    · rename_i a' ys hH
      split at e
      · rename_i ha
        have e_ := Option.some.inj e
        subst e_
        subst ha
        refine @bc _ fun k_ => ?_
        obtain ⟨_, h0, ps, hd, q⟩ := S.objs t a' _ hH
        apply k_; clear k_
        exact ⟨a', ps, r, h0, hd, q⟩
      · cases e
    · cases e
  all_goals cases e
theorem isSome_of {m : List (Int × V)} {ps : List (Int × Value)} (k : Int) (q : PRep cA s.heap W m ps) : (valueAt ps k).isSome = (dGet m k).isSome := by
  have := valueAt_rep k q
  revert this
  cases dGet m k <;> cases valueAt ps k <;> simp
theorem cmp_in {k : Int} {y : V} {v u : Value} {m : List (Int × V)} (rx : Rep cA s.heap W (.int k) v) (ry : Rep cA s.heap W y u) (e : dictV H y = some m) : wpAny (model prog w) A (compareOp .In v u) (Ok1 cA prog w base g₀ o₀ s W H (.bool (dGet m k).isSome)) E s := by
  obtain ⟨t, rfl⟩ := rx
  refine @bc _ fun k_ => ?_
  obtain ⟨a, ps, e0_, h0, hd, q⟩ := dictV_at S ry e
  apply k_; clear k_
  subst e0_
  refine wpAny_in_of (intKind_is prog w k t) h0 hd.mapOf ?_
  simp only [isSome_of S k q]
  exact Ok1.toks S rfl
theorem cmp_nin {k : Int} {y : V} {v u : Value} {m : List (Int × V)} (rx : Rep cA s.heap W (.int k) v) (ry : Rep cA s.heap W y u) (e : dictV H y = some m) : wpAny (model prog w) A (compareOp .NotIn v u) (Ok1 cA prog w base g₀ o₀ s W H (.bool (!(dGet m k).isSome))) E s := by
  obtain ⟨t, rfl⟩ := rx
  refine @bc _ fun k_ => ?_
  obtain ⟨a, ps, e0_, h0, hd, q⟩ := dictV_at S ry e
  apply k_; clear k_
  subst e0_
  refine wpAny_notIn_of (intKind_is prog w k t) h0 hd.mapOf ?_
  rw [isSome_of S k q]
  exact Ok1.toks S rfl
theorem call_getV {k : Int} {y x : V} {v u z : Value} {m : List (Int × V)} (ry : Rep cA s.heap W y u) (rx : Rep cA s.heap W (.int k) v) (rz : Rep cA s.heap W x z) (e : dictV H y = some m) :
    wpAny (model prog w) A (call (.builtin "dict.get") [u, v, z]) (Ok1 cA prog w base g₀ o₀ s W H ((dGet m k).getD x)) E s := by
  obtain ⟨t, rfl⟩ := rx
  refine @bc _ fun k_ => ?_
  obtain ⟨a, ps, e0_, h0, hd, q⟩ := dictV_at S ry e
  apply k_; clear k_
  subst e0_
  refine call_meetsIn PySem.F.slot_dict_get hd.typeIs PySem.F.entry_dict_get (PySem.F.args_dict_get_3 _ _ _) (meets_dict_get_default (intKind prog w) a (intKind_is prog w k t) h0 z) ⟨_, hd.mapOf, ?_⟩
  refine Ok1.toks S ?_
  have := valueAt_rep k q
  revert this
  cases dGet m k <;> cases valueAt ps k <;> simp
  · exact rz
theorem getItemV {x : V} {k : Int} {v u : Value} {xs : List V} {z : V} (rx : Rep cA s.heap W x v) (rk : Rep cA s.heap W (.int k) u) (e : seqV H x = some xs) (hz : getAt xs k = some z) :
    ∃ a T id t, v = .ref a ∧ u = .int k t ∧ s.TypeIs v T ∧ typeLookup (.type T) "__getitem__" = pure (some (.builtin id)) ∧ wpAny (model prog w) A (getItem v u) (Ok1 cA prog w base g₀ o₀ s W H z) E s := by
  obtain ⟨t, rfl⟩ := rk
  refine @bc _ fun k_ => ?_
  obtain ⟨a, vs, e0_, hl, n, q⟩ := seqV_at S rx e
  apply k_; clear k_
  subst e0_
  have hb : lim = 16777216 := rfl
  have hlen := q.length
  have key : ∃ j v, seqIndex? k vs.length = some j ∧ vs[j]? = some v ∧ Rep cA s.heap W z v ∧ -(2 ^ 63) ≤ k ∧ k < 2 ^ 63 ∧ (0 ≤ k → j = k.toNat) ∧ (k < 0 → j = (k + vs.length).toNat ∧ -(vs.length : Int) ≤ k) := by
    unfold getAt at hz
    refine @bc _ fun k_ => ?_
    split at hz <;> (apply k_; clear k_)
    · rename_i h0
      obtain ⟨v, hv, r⟩ := q.get cA hz
      have hlt : k.toNat < vs.length := (List.getElem?_eq_some_iff.mp hv).1
      exact ⟨k.toNat, v, seqIndex_of h0 (by (first | lia | omega)), hv, r, by (first | lia | omega), by (first | lia | omega), fun _ => rfl, fun h => by (first | lia | omega)⟩
    · rename_i h0
      split at hz
      · rename_i h1
        rw [hlen] at hz h1
        refine @bc _ fun k_ => ?_
        obtain ⟨v, hv, r⟩ := q.get cA hz
        apply k_; clear k_
        exact ⟨_, v, seqIndex_neg (by (first | lia | omega)) (by (first | lia | omega)), hv, r, by (first | lia | omega), by (first | lia | omega), fun h => by (first | lia | omega), fun _ => ⟨rfl, by (first | lia | omega)⟩⟩
      · exact nomatch hz
  refine @bc _ fun k_ => ?_
  obtain ⟨j, v, hj, hv, r, h1, h2, h3, h4⟩ := key
  apply k_; clear k_
  rcases hl with hl | hl
  · refine ⟨a, "list", _, t, rfl, rfl, hl.typeIs, slot_list_getitem.lookup, ?_⟩
    by_cases h0 : 0 ≤ k
    · obtain rfl := h3 h0
      exact wpAny_getItem_list hl h0 h2 (by simpa using hv) (Ok1.same S r)
    · obtain ⟨rfl, h5⟩ := h4 (by (first | lia | omega))
      exact wpAny_getItem_list_neg hl (by (first | lia | omega)) (by simpa using h5) h1 (by simpa using hv) (Ok1.same S r)
  · exact ⟨a, "tuple", _, t, rfl, rfl, hl.typeIs, slot_tuple_getitem.lookup, PyProof.Rows.getItem_tuple hl h1 h2 (by simpa using hj) (by simpa using hv) (Ok1.same S r)⟩
theorem call_indexV {x : V} {k : Int} {v u : Value} {xs : List V} {ns : List Int} (rx : Rep cA s.heap W x v) (rk : Rep cA s.heap W (.int k) u) (e : itemsV H x = some xs) (hn : intsV xs = some ns) (hk : k ∈ ns) :
    wpAny (model prog w) A (call (.builtin "list.index") [v, u]) (Ok1 cA prog w base g₀ o₀ s W H (.int (ns.idxOf k : Nat))) E s := by
  obtain ⟨t, rfl⟩ := rk
  refine @bc _ fun k_ => ?_
  obtain ⟨a, vs, e0_, ⟨n, ho⟩, hn', q⟩ := itemsV_at S rx e
  apply k_; clear k_
  subst e0_
  have hi := intsV_at q hn
  have hlen := hi.length
  have hb : lim = 16777216 := rfl
  have hj : ns.idxOf k < ns.length := List.idxOf_lt_length_iff.mpr hk
  refine call_meets PySem.F.slot_list_index ⟨_, ho, rfl⟩ PySem.F.entry_list_index (PySem.F.args_list_index_2 _ _)
    (list_indexAt a vs.toArray n .none #[] (.int k t) (isInt k) (ns.idxOf k) (by simpa [hlen] using hj) (by (first | lia | omega)) ?_ ?_) ⟨ho, fun y hy => (eq_isInt k t hi y (by simpa using hy)).at _ _, ?_⟩
  · show isInt k vs[ns.idxOf k] = true
    rw [isInt_at k hi _ (by omega) hj]
    simp
  · intro j hjs hlt
    show isInt k vs[j] = false
    rw [isInt_at k hi j (by simpa using hjs) (by (first | lia | omega))]
    exact ne_of_lt_idxOf hlt _
  · exact Ok1.toks S ⟨_, rfl⟩
theorem call_range1 {b : Int} {v : Value} (r : Rep cA s.heap W (.int b) v) : wpAny (model prog w) A (call (.type "range") [v]) (Ok1 cA prog w base g₀ o₀ s W H (.rng 0 b 1)) E s := by
  obtain ⟨t, rfl⟩ := r
  refine PySem.call_range_1 ?_
  exact Ok1.heap S (fun _ _ e => Heap.get?_push_of_some _ e) ⟨_, _, _, _, rfl, S.fresh, IsRange.new ..⟩
theorem call_range3 {a b c : Int} {v u z : Value} (ra : Rep cA s.heap W (.int a) v) (rb : Rep cA s.heap W (.int b) u) (rc : Rep cA s.heap W (.int c) z) (h : c ≠ 0) (h1 : -2147483648 < c) (h2 : c < 2147483648) : wpAny (model prog w) A (call (.type "range") [v, u, z]) (Ok1 cA prog w base g₀ o₀ s W H (.rng a b c)) E s := by
  obtain ⟨t, rfl⟩ := ra; obtain ⟨t', rfl⟩ := rb; obtain ⟨t'', rfl⟩ := rc
  refine PySem.call_range_3 h ?_ (.inl (PyProof.noPylong_of_log2 ?_))
  · exact Ok1.heap S (fun _ _ e => Heap.get?_push_of_some _ e) ⟨_, _, _, _, rfl, S.fresh, IsRange.new ..⟩
  · by_cases h0 : c.natAbs = 0
    · (first | lia | omega)
    · have : c.natAbs.log2 < 31 := (Nat.log2_lt h0).mpr (by (first | lia | omega))
      (first | lia | omega)
end
end Mine
set_option backward.match.sparseCases false
namespace Mine
open PySem PySem.W PyProof.Rows PySem.SeqAt PySem.Calls Builtin Builtin.ObjectAttr
structure ClsOk (K : Frag) (C : Addr) (c : Cls) : Prop where
  dict : hasDictIn K C = true
  getA : plainGet K C ("" : Str) = true
  setA : findIn K (.ref C) "__setattr__" = some (some (.builtin "object.__setattr__"))
  over : plainOver K C = true
  fld : (c.fields.all fun n => findIn K (.ref C) (Str.ofString n) == some none) = true
noncomputable def apart : List String → Bool
  | [] => true
  | n :: ns => ns.all (fun m => !(Str.ofString m == Str.ofString n)) && apart ns
theorem fields_apart (c : Cls) : apart c.fields = true := by cases c <;> decide +kernel
theorem isStr_str (s n : Str) (t : Tok) : (Value.str s t).isStr n = (s == n) := rfl
theorem keys_none : ∀ {ns : List String} {es : List DictEntry} {n : Str}, KeysAre ns es → (ns.take es.length).all (fun m => !(Str.ofString m == n)) = true → es.find? (·.key.isStr n) = none ∧ es.any (·.refKey) = false ∧ es.any (·.key.isStr n) = false
  | _, [], _, _, _ => ⟨rfl, rfl, rfl⟩
  | m :: ns, ⟨hs, k, v⟩ :: es, n, ⟨⟨t, e⟩, q⟩, h => by
    dsimp only at e
    subst e
    simp only [List.length_cons, List.take_succ_cons, List.all_cons, Bool.and_eq_true, Bool.not_eq_true'] at h
    obtain ⟨a, b, c⟩ := keys_none q h.2
    refine ⟨?_, ?_, ?_⟩
    · rw [List.find?_cons]; simp only [isStr_str, h.1]; exact a
    · rw [List.any_cons, b]; rfl
    · rw [List.any_cons, c]; simp only [isStr_str, h.1]; rfl
  | [], _ :: _, _, q, _ => q.elim
theorem apart_cons {m n : String} {ns : List String} {i : Nat} (ha : apart (m :: ns) = true) (h : ns[i]? = some n) : (Str.ofString m == Str.ofString n) = false := by
  simp only [apart, Bool.and_eq_true, List.all_eq_true, Bool.not_eq_true'] at ha
  have := ha.1 n (List.mem_of_getElem? h)
  rw [Bool.eq_false_iff] at this ⊢
  intro z; exact this (by rw [beq_iff_eq] at z ⊢; exact z.symm)
theorem apart_tail {m : String} {ns : List String} (ha : apart (m :: ns) = true) : apart ns = true := (Bool.and_eq_true_iff.mp ha).2
theorem getL_hit {n : Str} {e : DictEntry} {es : List DictEntry} {t : Tok} (h : e.key = .str n t) : getL n (e :: es) = some (some e.val) := by
  unfold getL
  rw [List.find?_cons, h]
  simp [isStr_str]
theorem getL_skip {n m : Str} {e : DictEntry} {es : List DictEntry} {t : Tok} {r : Value} (h : e.key = .str m t) (hm : (m == n) = false) (q : getL n es = some (some r)) : getL n (e :: es) = some (some r) := by
  unfold getL at q ⊢
  rw [List.find?_cons, h]
  simp only [isStr_str, hm]
  split at q
  · rename_i en he; rw [he]; exact q
  · split at q <;> cases q
theorem getL_at {ns : List String} : ∀ {es : List DictEntry} {i : Nat} {n : String} {v : Value}, KeysAre ns es → apart ns = true → ns[i]? = some n → (es.map (·.val))[i]? = some v → getL (Str.ofString n) es = some (some v) := by
  induction ns with
  | nil => exact fun _ _ h1 _ => nomatch h1
  | cons m ns ih =>
    intro es i n v q ha h1 h2
    cases es with
    | nil => exact nomatch h2
    | cons e es =>
      cases i with
      | zero =>
        rw [← Option.some.inj h1, ← Option.some.inj h2]
        exact q.1.elim fun t he => getL_hit he
      | succ i => exact q.1.elim fun t he => getL_skip he (apart_cons ha h1) (ih q.2 (apart_tail ha) h1 h2)
theorem getL_next {ns : List String} {es : List DictEntry} {n : String} (q : KeysAre ns es) (ha : apart ns = true) (h : ns[es.length]? = some n) : getL (Str.ofString n) es = some none ∧ es.any (·.key.isStr (Str.ofString n)) = false := by
  have key : ∀ {ns : List String} {k : Nat} {n : String}, apart ns = true → ns[k]? = some n → (ns.take k).all (fun m => !(Str.ofString m == Str.ofString n)) = true := by
    intro ns
    induction ns with
    | nil => intro k n _ h; simp
    | cons m ns ih =>
      intro k n ha h
      cases k with
      | zero => simp
      | succ k =>
        simp only [apart, Bool.and_eq_true, List.all_eq_true, Bool.not_eq_true'] at ha
        simp at h
        simp only [List.take_succ_cons, List.all_cons, Bool.and_eq_true, Bool.not_eq_true']
        refine ⟨?_, ih ha.2 h⟩
        have := ha.1 n (List.mem_of_getElem? h)
        rw [Bool.eq_false_iff] at this ⊢
        intro z; exact this (by rw [beq_iff_eq] at z ⊢; exact z.symm)
  obtain ⟨a, b, c⟩ := keys_none q (key ha h)
  refine ⟨?_, c⟩
  unfold getL
  rw [a, b]; rfl
theorem putL_hit {n : Str} {hsh : Int} {key u : Value} {e : DictEntry} {es : List DictEntry} {t : Tok} (h : e.key = .str n t) : putL n hsh key u (e :: es) = { e with val := u } :: es := by
  unfold putL
  rw [h]
  simp only [isStr_str, beq_self_eq_true, if_true]
theorem putL_skip {n m : Str} {hsh : Int} {key u : Value} {e : DictEntry} {es : List DictEntry} {t : Tok} (h : e.key = .str m t) (hm : (m == n) = false) : putL n hsh key u (e :: es) = e :: putL n hsh key u es := by
  conv => lhs; unfold putL
  rw [h]
  simp only [isStr_str, hm, Bool.false_eq_true, if_false]
theorem putL_at {hsh : Int} {key u : Value} {ns : List String} : ∀ {es : List DictEntry} {i : Nat} {n : String}, KeysAre ns es → apart ns = true → ns[i]? = some n → i < es.length →
    KeysAre ns (putL (Str.ofString n) hsh key u es) ∧ (putL (Str.ofString n) hsh key u es).map (·.val) = (es.map (·.val)).set i u ∧ (putL (Str.ofString n) hsh key u es).length = es.length := by
  induction ns with
  | nil => exact fun _ _ h1 _ => nomatch h1
  | cons m ns ih =>
    intro es i n q ha h1 h2
    cases es with
    | nil => exact absurd h2 (Nat.not_lt_zero _)
    | cons e es =>
      obtain ⟨⟨t, he⟩, q⟩ := q
      cases i with
      | zero =>
        rw [← Option.some.inj h1, putL_hit he]
        exact ⟨⟨⟨t, he⟩, q⟩, rfl, rfl⟩
      | succ i =>
        rw [putL_skip he (apart_cons ha h1)]
        obtain ⟨a, b, c⟩ := ih q (apart_tail ha) h1 (Nat.lt_of_succ_lt_succ h2)
        exact ⟨⟨⟨t, he⟩, a⟩, congrArg (e.val :: ·) b, congrArg Nat.succ c⟩
theorem putL_next {hsh : Int} {u : Value} {tk : Tok} {n : String} : ∀ {ns : List String} {es : List DictEntry}, KeysAre ns es → es.any (·.key.isStr (Str.ofString n)) = false → ns[es.length]? = some n →
    KeysAre ns (putL (Str.ofString n) hsh (.str (Str.ofString n) tk) u es) ∧ putL (Str.ofString n) hsh (.str (Str.ofString n) tk) u es = es ++ [⟨hsh, .str (Str.ofString n) tk, u⟩]
  | [], [], _, _, h => by simp at h
  | m :: ns, [], _, _, h => by
    simp at h
    subst h
    exact ⟨⟨⟨tk, rfl⟩, by cases ns <;> trivial⟩, rfl⟩
  | [], _ :: _, q, _, _ => q.elim
  | m :: ns, e :: es, ⟨h1, q⟩, h, h2 => by
    rw [List.any_cons, Bool.or_eq_false_iff] at h
    simp at h2
    obtain ⟨a, b⟩ := putL_next (hsh := hsh) (u := u) (tk := tk) q h.2 h2
    unfold putL
    rw [h.1]
    exact ⟨⟨h1, a⟩, by rw [b]; rfl⟩
theorem fields_len (c : Cls) : c.fields.length ≤ 20 := by cases c <;> decide
theorem keysAre_len : ∀ {ns : List String} {es : List DictEntry}, KeysAre ns es → es.length ≤ ns.length := by
  intro ns es
  induction es generalizing ns with
  | nil => exact fun _ => Nat.zero_le _
  | cons e es ih =>
    cases ns with
    | nil => exact fun h => h.elim
    | cons n ns => exact fun h => Nat.succ_le_succ (ih h.2)
theorem ref_free {n : Str} {es : List DictEntry} (hl : (getL n es).isSome = true) : (!es.toArray.any (·.key.isStr n) && es.toArray.any (·.refKey)) = false := by
  rw [← Array.any_toList, ← Array.any_toList]
  unfold getL at hl
  split at hl
  · rename_i en he
    rw [List.any_eq_true.mpr ⟨en, List.mem_of_find?_eq_some he, List.find?_some he⟩]; rfl
  · split at hl
    · exact nomatch hl
    · rename_i z; rw [Bool.not_eq_true] at z; rw [z, Bool.and_false]
def FldAt (cA : Cls → Addr) (c : Cls) (xs xs' : List V) (n : String) (es : List DictEntry) (x : V) (u : Value) : Prop := ∀ (hsh : Int) (tk : Tok) (W' : Wd) (h' : Heap), KeysAre c.fields (putL (Str.ofString n) hsh (.str (Str.ofString n) tk) u es) ∧ (putL (Str.ofString n) hsh (.str (Str.ofString n) tk) u es).length ≤ 100 ∧
  (Reps cA h' W' xs (es.map (·.val)) → Rep cA h' W' x u → Reps cA h' W' xs' ((putL (Str.ofString n) hsh (.str (Str.ofString n) tk) u es).map (·.val)))
inductive FldKey (cA : Cls → Addr) (c : Cls) (xs : List V) (n : String) (es : List DictEntry) (x : V) (u : Value) (H' : St) (r : List V → St) : Prop | mk (xs' : List V) (e : r xs' = H') (hl : (getL (Str.ofString n) es).isSome = true) (k : FldAt cA c xs xs' n es x u)
theorem fld_key {cA : Cls → Addr} {c : Cls} {i : Nat} {xs : List V} {n : String} {es : List DictEntry} {x : V} {u : Value} {H' : St} {r : List V → St} (hn : c.fields[i]? = some n) (h3 : KeysAre c.fields es) (hlen : xs.length = es.length) (e : (if i < xs.length then some (r (xs.set i x)) else if i = xs.length then some (r (xs ++ [x])) else .none) = some H') : FldKey cA c xs n es x u H' r := by
  have hi9 : i < c.fields.length := (List.getElem?_eq_some_iff.mp hn).1
  have hl9 := fields_len c
  split at e
  · rename_i hlt
    have hlt' : i < (es.map (·.val)).length := by rw [List.length_map]; (first | lia | omega)
    refine ⟨_, Option.some.inj e, by rw [getL_at h3 (fields_apart c) hn (List.getElem?_eq_getElem hlt')]; rfl, fun hsh tk W' h' => ?_⟩
    obtain ⟨p1, p2, p3⟩ := putL_at (hsh := hsh) (key := .str (Str.ofString n) tk) (u := u) h3 (fields_apart c) hn (by (first | lia | omega))
    have := keysAre_len h3
    exact ⟨p1, by (first | lia | omega), fun q1 q2 => by rw [p2]; exact q1.set cA i q2⟩
  · have heq := (if_is e).1
    have hn' : c.fields[es.length]? = some n := by rw [← hlen, ← heq]; exact hn
    obtain ⟨g1, g2⟩ := getL_next h3 (fields_apart c) hn'
    refine ⟨_, (if_is e).2, by rw [g1]; rfl, fun hsh tk W' h' => ?_⟩
    obtain ⟨p1, p2⟩ := putL_next (hsh := hsh) (u := u) (tk := tk) h3 g2 hn'
    have := keysAre_len h3
    exact ⟨p1, by rw [p2, List.length_append]; simp; (first | lia | omega), fun q1 q2 => by rw [p2, List.map_append]; exact q1.append cA ⟨q2, trivial⟩⟩
section
variable {w : World} {base : Heap} {g₀ : Array GenState} {o₀ : OsState}
variable {A : Around} {E : Value → Shared → Prop} {s s' : Shared} {W : Wd} {H H' : St} {K : Frag}
theorem Rep.handed {x : V} {v : Value} (r : Rep cA s.heap W x v) : handedIn v = true := by
  cases x
  case none => cases r; rfl
  case bool => cases r; rfl
  case int => obtain ⟨_, rfl⟩ := r; rfl
  case str => obtain ⟨_, rfl⟩ := r; rfl
  case ref => cases r; rfl
  case tup => obtain ⟨_, _, rfl, _⟩ := r; rfl
  case lst => obtain ⟨_, _, rfl, _⟩ := r; rfl
  case inst => obtain ⟨_, _, _, _, rfl, _⟩ := r; rfl
  case rng => obtain ⟨_, _, _, _, rfl, _⟩ := r; rfl
  case edict => obtain ⟨_, rfl, _⟩ := r; rfl
theorem StOk.inK (S : StOk cA prog w base g₀ o₀ s W H) (X : K.In base) : K.In s.heap := X.keeps S.keep
theorem StOk.store {I : Addr} {t : Tag} (x : StOk cA prog w base g₀ o₀ s W H) (hI : W I = some (.obj t)) (k : ∀ b o, b ≠ I → s.heap.get? b = some o → s'.heap.get? b = some o) (hl : ∃ o, s'.heap.get? I = some o)
    (hH : ∀ t', t' ≠ t → H' t' = H t') (ho : ∀ a o, H' t = some (a, o) → ObjAt cA prog w s'.heap W t a o) (hg : s'.gens = s.gens := by rfl) (hos : s'.os = s.os := by rfl) : StOk cA prog w base g₀ o₀ s' W H' :=
  have ne : ∀ b, W b ≠ some (.obj t) → b ≠ I := fun b hw q => hw (q ▸ hI)
  ⟨fun b o e => k b o (ne b (by rw [x.wbase b o e]; exact fun q => by cases q)) (x.keep b o e), x.wbase, fun b hw => by
      by_cases q : b = I
      · subst q; exact hl
      · obtain ⟨o, e⟩ := x.live b hw; exact ⟨o, k b o q e⟩,
    fun t' a o e => by
      by_cases q : t' = t
      · subst q; exact ho a o e
      · rw [hH t' q] at e
        exact (x.objs t' a o e).keeps (fun b ob hw eb => ⟨k b ob (ne b (by rw [hw]; exact fun q => by cases q)) eb, hw⟩) fun b ob hw eb => ⟨k b ob (ne b (by rw [hw]; exact fun z => q (by cases z; rfl))) eb, hw⟩,
    hg.trans x.gens, hos.trans x.os⟩
theorem Ext.store {P : Addr → Prop} {I : Addr} {t : Tag} (hI : W I = some (.obj t)) (k : ∀ b o, b ≠ I → s.heap.get? b = some o → s'.heap.get? b = some o) : Ext P s W s' W :=
  ⟨fun b o hw e => ⟨k b o (fun q => by rw [q, hI] at hw; cases hw) e, hw⟩, fun _ h => h, fun b o hw hp e => ⟨o.slots, k b o (fun q => by rw [q, hI] at hw; cases hw) e⟩, fun b o hw e h => ⟨o, k b o (fun q => by rw [q, hI] at hw; cases hw) e, h⟩, fun b o hw _ e => ⟨k b o (fun q => by rw [q, hI] at hw; cases hw) e, hw⟩⟩
theorem keeps_store {I : Addr} {t : Tag} {h h' : Heap} (hI : W I = some (.obj t)) (k : ∀ b o, b ≠ I → h.get? b = some o → h'.get? b = some o) : Keeps W h W h' :=
  fun b o hw e => ⟨k b o (fun q => by rw [q, hI] at hw; cases hw) e, hw⟩
noncomputable def Ok0 (cA : Cls → Addr) (prog : Program) (w : World) (base : Heap) (g₀ : Array GenState) (o₀ : OsState) (s : Shared) (W : Wd) (H : St) (s' : Shared) : Prop :=
  Ext NP s W s' W ∧ StOk cA prog w base g₀ o₀ s' W H
theorem fld_name {C : Addr} {c : Cls} (ck : ClsOk K C c) {i : Nat} {n : String} (h : c.fields[i]? = some n) : findIn K (.ref C) (Str.ofString n) = some none := by
  have := List.all_eq_true.mp ck.fld n (List.mem_of_getElem? h)
  exact beq_iff_eq.mp this
theorem inst_at (S : StOk cA prog w base g₀ o₀ s W H) {c : Cls} {x : V} {v : Value} {xs : List V} (r : Rep cA s.heap W x v) (e : fldsV H c x = some xs) :
    ∃ a dx es n, v = .ref a ∧ s.heap.get? a = some (instObj (cA c) dx) ∧ s.heap.get? dx = some (dictOf es n) ∧ KeysAre c.fields es ∧ Reps cA s.heap W xs (es.map (·.val)) := by
  cases x <;> simp only [fldsV] at e
  case inst c' ys =>
    split at e
    · rename_i h
      have e_ := Option.some.inj e
      subst e_
      subst h
      refine @bc _ fun k_ => ?_
      obtain ⟨a, dx, es, n, e0_, _, _, h1, h2, h3, h4⟩ := r
      apply k_; clear k_
      subst e0_
      exact ⟨a, dx, es, n, rfl, h1, h2, h3, h4⟩
    · cases e
  case ref t a =>
    split at e
    · rename_i a' c' ys hH
      refine @bc _ fun k_ => ?_
      split at e <;> (apply k_; clear k_)
      · rename_i ha
        have e_ := Option.some.inj e
        subst e_
        obtain ⟨rfl, rfl⟩ := ha
        refine @bc _ fun k_ => ?_
        obtain ⟨_, dx, es, n, _, _, h1, h2, h3, h4⟩ := S.objs t a' _ hH
        apply k_; clear k_
        exact ⟨a', dx, es, n, r, h1, h2, h3, h4⟩
      · cases e
    · exfalso
      cases e
  all_goals cases e
theorem getFld (S : StOk cA prog w base g₀ o₀ s W H) (X : K.In base) {c : Cls} (ck : ClsOk K (cA c) c) {x z : V} {v : Value} {xs : List V} {i : Nat} {n : String} {expr : Bool} (r : Rep cA s.heap W x v)
    (e : fldsV H c x = some xs) (hz : xs[i]? = some z) (hn : c.fields[i]? = some n) : wpAny (model prog w) A (getAttr v (Str.ofString n) expr) (Ok1 cA prog w base g₀ o₀ s W H z) E s := by
  refine @bc _ fun k_ => ?_
  obtain ⟨a, dx, es, k, e0_, h1, h2, h3, h4⟩ := inst_at S r e
  apply k_; clear k_
  subst e0_
  obtain ⟨u, hu, ru⟩ := h4.get cA hz
  refine get_value (S.inK X) ⟨h1, rfl, rfl, h2⟩ (plainGet_of ck.getA).1 (findObj_own ck.dict (fld_name ck hn) rfl ?_) (Rep.handed (s := s) ru) (Ok1.toks S ru)
  exact getL_at h3 (fields_apart c) hn hu
theorem putFld (S : StOk cA prog w base g₀ o₀ s W H) (X : K.In base) {c : Cls} (ck : ClsOk K (cA c) c) {y x : V} {v u : Value} {i : Nat} {n : String} (ry : Rep cA s.heap W y v) (rx : Rep cA s.heap W x u)
    (e : setFld H c i x y = some H') (hn : c.fields[i]? = some n) : wpAny (model prog w) A (setAttr v (Str.ofString n) u) (fun _ => Ok0 cA prog w base g₀ o₀ s W H') E s := by
  refine @bc _ fun k_ => ?_
  obtain ⟨t, a, xs, e1, hH, e⟩ := onO_is e
  obtain ⟨wa, dx, es, k, wd, hne, h1, h2, h3, h4⟩ := S.objs t a _ hH
  obtain ⟨xs', e2, hl, key⟩ := fld_key (cA := cA) (u := u) (x := x) (r := fun ys => upd H t (some (a, .inst c ys))) hn h3 (by have := h4.length; rw [List.length_map] at this; exact this) e
  obtain ⟨cd, hc, hd'⟩ := any_some ck.dict
  rw [e1] at ry
  have e3 : v = .ref a := ry
  apply k_; clear k_
  subst e2 e3
  have I : InstAt s.heap a (instObj (cA c) dx) (cA c) (some (dictOf es k)) := ⟨h1, rfl, rfl, h2⟩
  refine set_plain (S.inK X) I ck.setA (osa_open (s := { s with toks := s.toks + 1 }) (S.inK X) I ck.over (r := none) (by unfold takerIn; rw [fld_name ck hn]; rfl) fun b => ?_)
  have D' : (s.heap.update dx (Obj.putName (Str.ofString n) (PyData.keyHash w.params (Str.ofString n)) (.str (Str.ofString n) (s.toks + 1)) u)).get? dx = some (dictOf (putL (Str.ofString n) (PyData.keyHash w.params (Str.ofString n)) (.str (Str.ofString n) (s.toks + 1)) u es) (putN (Str.ofString n) es k)) := by
    rw [Heap.get?_update_self _ h2 (by rw [putName_dict]; rfl), putName_dict]
  refine wpAny_bind (wpAny_pure (wpAny_bind (wpAny_bind (wpAny_loadPart h1 (wpAny_bind ((looks_clsIn (S.inK X) hc) _ _ _ _ (fun _ _ e => e) ?_))))))
  rw [hd']
  refine wpAny_pure (a := some dx) (wpAny_bind (wpAny_pure (wpAny_bind ?_)))
  refine wpAny_bind (wpAny_bind (wpAny_askSetting (wpAny_pure (wpAny_bind (wpAny_mkText (wpAny_bind (wpAny_loadPart h2 ?_)))))))
  dsimp only
  rw [aRefKeyMayBeTheName_at, ref_free hl]
  refine wpAny_updatePart h2 ?_
  refine wpAny_bind (wpAny_lookBehind D' (pastItsLine_dict (by rw [List.size_toArray, sizeLine_eq]; exact Nat.le_trans (key (PyData.keyHash w.params (Str.ofString n)) (s.toks + 1) W s.heap).2.1 (by decide))) ?_)
  have kk : ∀ b o, b ≠ dx → s.heap.get? b = some o → (s.heap.update dx (Obj.putName (Str.ofString n) (PyData.keyHash w.params (Str.ofString n)) (.str (Str.ofString n) (s.toks + 1)) u)).get? b = some o := fun b o hb q => (Heap.get?_update_other _ _ (Ne.symm hb)).trans q
  refine wpAny_pure ⟨Ext.store wd kk, S.store wd kk ⟨_, D'⟩ (fun t' ht => upd_ne _ _ ht) fun a o q => ?_⟩
  rw [upd_same] at q
  cases q
  have kp := keeps_store (h := s.heap) wd kk
  exact ⟨wa, dx, _, _, wd, hne, kk _ _ hne.symm h1, D', (key _ _ W s.heap).1, (key _ _ W _).2.2 (h4.keeps kp) (rx.keeps kp)⟩
end
end Mine
set_option backward.match.sparseCases false
namespace Mine
open PySem PySem.W PyProof.Rows PySem.SeqAt PySem.Calls
section
variable {w : World} {base : Heap} {g₀ : Array GenState} {o₀ : OsState}
variable {A : Around} {E : Value → Shared → Prop} {s s' : Shared} {W : Wd} {H H' : St} {K : Frag}
variable (S : StOk cA prog w base g₀ o₀ s W H)
include S
theorem Ok0.list {t : Tag} {a : Addr} {xs' : List V} {vs' : List Value} {h' : Heap} {tk : Nat} (hw : W a = some (.obj t)) (hl' : h'.PlainList a vs'.toArray) (hs : Heap.SameBut a s.heap h') (hn : vs'.length ≤ lim) (r : Reps cA s.heap W xs' vs') :
    Ok0 cA prog w base g₀ o₀ s W (upd H t (some (a, .list xs'))) { s with heap := h', toks := tk } := by
  have kk : ∀ b o, b ≠ a → s.heap.get? b = some o → h'.get? b = some o := fun b o hb q => (hs.2 b hb).trans q
  refine ⟨Ext.store hw kk, S.store hw kk (let ⟨n, e⟩ := hl'; ⟨_, e⟩) (fun t' ht => upd_ne _ _ ht) fun a' o q => ?_⟩
  rw [upd_same] at q
  cases q
  exact ⟨hw, vs', hl', hn, r.keeps (keeps_store hw kk)⟩
theorem Ok0.dict {t : Tag} {a : Addr} {m' : List (Int × V)} {ps' : List (Int × Value)} {h' : Heap} {tk : Nat} (hw : W a = some (.obj t)) (h0 : (a == sysModules) = false) (hl' : h'.DictOf (intKind prog w) a ps') (hs : Heap.SameBut a s.heap h') (r : PRep cA s.heap W m' ps') :
    Ok0 cA prog w base g₀ o₀ s W (upd H t (some (a, .dict m'))) { s with heap := h', toks := tk } := by
  have kk : ∀ b o, b ≠ a → s.heap.get? b = some o → h'.get? b = some o := fun b o hb q => (hs.2 b hb).trans q
  refine ⟨Ext.store hw kk, S.store hw kk (let ⟨o, _, _, e, _⟩ := hl'; ⟨_, e⟩) (fun t' ht => upd_ne _ _ ht) fun a' o q => ?_⟩
  rw [upd_same] at q
  cases q
  exact ⟨hw, h0, ps', hl', PRep.keeps cA (keeps_store hw kk) r⟩
theorem PRep.length {m : List (Int × V)} {ps : List (Int × Value)} (q : PRep cA s.heap W m ps) : m.length = ps.length := by
  induction m generalizing ps with
  | nil => cases ps with | nil => rfl | cons _ _ => exact q.elim
  | cons x m ih => cases ps with
    | nil => exact q.elim
    | cons y ps => simp [ih q.2.2]
theorem PRep.any {m : List (Int × V)} {ps : List (Int × Value)} (k : Int) (q : PRep cA s.heap W m ps) : ps.any (fun kv => kv.1 = k) = m.any (fun kv => kv.1 = k) := by
  induction m generalizing ps with
  | nil => cases ps with | nil => rfl | cons _ _ => exact q.elim
  | cons x m ih => cases ps with
    | nil => exact q.elim
    | cons y ps => simp [ih q.2.2, q.1]
theorem PRep.stored {m : List (Int × V)} {ps : List (Int × Value)} {k : Int} {x : V} {v : Value} (q : PRep cA s.heap W m ps) (r : Rep cA s.heap W x v) : PRep cA s.heap W (dPut m k x) (stored ps k v) := by
  have ha := PRep.any S k q
  unfold dPut PySem.stored
  rw [ha]
  split
  · clear ha
    rename_i h
    clear h
    induction m generalizing ps with
    | nil => cases ps with | nil => trivial | cons _ _ => exact q.elim
    | cons y m ih => cases ps with
      | nil => exact q.elim
      | cons z ps =>
        refine @bc _ fun k_ => ?_
        obtain ⟨j, y⟩ := y
        obtain ⟨i, z⟩ := z
        obtain ⟨e0_, q1, q2⟩ := q
        apply k_; clear k_
        subst e0_
        by_cases hk : j = k
        · subst hk
          simpa using ⟨rfl, r, ih q2⟩
        · simpa [hk] using ⟨rfl, q1, ih q2⟩
  · clear ha
    rename_i h
    clear h
    induction m generalizing ps with
    | nil => cases ps with | nil => exact ⟨rfl, r, trivial⟩ | cons _ _ => exact q.elim
    | cons y m ih => cases ps with
      | nil => exact q.elim
      | cons z ps => exact ⟨q.1, q.2.1, ih q.2.2⟩
theorem PRep.without {m : List (Int × V)} {ps : List (Int × Value)} {k : Int} (q : PRep cA s.heap W m ps) : PRep cA s.heap W (dDel m k) (without ps k) := by
  unfold dDel PySem.without
  induction m generalizing ps with
  | nil => cases ps with | nil => trivial | cons _ _ => exact q.elim
  | cons y m ih => cases ps with
    | nil => exact q.elim
    | cons z ps =>
      refine @bc _ fun k_ => ?_
      obtain ⟨j, y⟩ := y
      obtain ⟨i, z⟩ := z
      obtain ⟨e0_, q1, q2⟩ := q
      apply k_; clear k_
      subst e0_
      by_cases hk : j = k
      · subst hk
        simpa using ih q2
      · rw [List.filter_cons_of_pos (by simpa using hk), List.filter_cons_of_pos (by simpa using hk)]
        exact ⟨rfl, q1, ih q2⟩
theorem putDict {k : Int} {y x : V} {v u kv : Value} (ry : Rep cA s.heap W y v) (rk : Rep cA s.heap W (.int k) kv) (rx : Rep cA s.heap W x u) (e : setDict H k x y = some H') :
    wpAny (model prog w) A (PySem.setItem v kv u) (fun _ => Ok0 cA prog w base g₀ o₀ s W H') E s := by
  refine @bc _ fun k_ => ?_
  obtain ⟨t, a, m, e1, hH, e⟩ := onO_is e
  obtain ⟨hlen, e2⟩ := if_is e
  obtain ⟨hw, h0, ps, hd, q⟩ := S.objs t a _ hH
  obtain ⟨tk, e0_⟩ := rk
  rw [e1] at ry
  have e3 : v = .ref a := ry
  apply k_; clear k_
  subst e0_ e2 e3
  have hps := PRep.length S q
  refine wpAny_setItem_pairs (intKind_is prog w k tk) hd (fun h' hd' hs => ?_) (by rw [sizeLine_eq]; (first | lia | omega))
  exact Ok0.dict S hw h0 hd' hs (PRep.stored S q rx)
theorem call_popD {k : Int} {y : V} {v kv : Value} (ry : Rep cA s.heap W y v) (rk : Rep cA s.heap W (.int k) kv) (e : dictPop H k y = some H') :
    wpAny (model prog w) A (call (.builtin "dict.pop") [v, kv]) (fun _ => Ok0 cA prog w base g₀ o₀ s W H') E s := by
  refine @bc _ fun k_ => ?_
  obtain ⟨t, a, m, e1, hH, e⟩ := onO_is e
  obtain ⟨⟨hg, hlen⟩, e2⟩ := if_is e
  obtain ⟨hw, h0, ps, hd, q⟩ := S.objs t a _ hH
  obtain ⟨tk, e0_⟩ := rk
  rw [e1] at ry
  have e3 : v = .ref a := ry
  have hps := PRep.length S q
  have hv := isSome_of S k q
  rw [hg] at hv
  obtain ⟨z, hz⟩ := Option.isSome_iff_exists.mp hv
  apply k_; clear k_
  subst e0_ e2 e3
  exact call_meetsIn PySem.F.slot_dict_pop hd.typeIs PySem.F.entry_dict_pop (PySem.F.args_dict_pop_2 _ _) (meets_dict_pop_there (knd := intKind prog w) (d := a) (intKind_is prog w k tk) [] (.inl rfl) rfl)
    ⟨ps, z, hd, by rw [sizeLine_eq]; (first | lia | omega), hz, fun h' hd' hs => Ok0.dict S hw h0 hd' hs (PRep.without S q)⟩
theorem list_of {y : V} {v : Value} {t : Tag} {a a' : Addr} {xs : List V} (hH : H t = some (a', .list xs)) (ha : a' = a) (ry : Rep cA s.heap W (.ref t a) v) :
    v = .ref a ∧ W a = some (.obj t) ∧ ∃ vs n, s.heap.get? a = some { cls := .type "list", data := .seq vs.toArray n } ∧ vs.length ≤ lim ∧ Reps cA s.heap W xs vs := by
  subst ha
  refine @bc _ fun k_ => ?_
  obtain ⟨hw, vs, ⟨n, ho⟩, hn, q⟩ := S.objs t a' _ hH
  apply k_; clear k_
  exact ⟨ry, hw, vs, n, ho, hn, q⟩
theorem call_appendL {y x : V} {v u : Value} (ry : Rep cA s.heap W y v) (rx : Rep cA s.heap W x u) (e : appendTo H x y = some H') :
    wpAny (model prog w) A (call (.builtin "list.append") [v, u]) (fun _ => Ok0 cA prog w base g₀ o₀ s W H') E s := by
  refine @bc _ fun k_ => ?_
  obtain ⟨t, a, xs, e1, hH, e⟩ := onO_is e
  obtain ⟨hlen, e2⟩ := if_is e
  rw [e1] at ry
  obtain ⟨e0_, hw, vs, n, ho, hn, q⟩ := list_of S (y := .none) hH rfl ry
  apply k_; clear k_
  subst e0_ e2
  have hq := q.length
  refine wpAny_list_append_plain ⟨n, ho⟩ (fun h' hl hs => ?_) (by rw [sizeLine_eq, List.size_toArray]; unfold lim at hn; omega)
  exact Ok0.list S (vs' := vs ++ [u]) hw (by simpa using hl) hs (by rw [List.length_append]; simpa [hq] using hlen) (q.append cA ⟨rx, trivial⟩)
theorem call_pop0L {y : V} {v k0 : Value} (ry : Rep cA s.heap W y v) (rk : Rep cA s.heap W (.int 0) k0) (e : popFrom H y = some H') :
    wpAny (model prog w) A (call (.builtin "list.pop") [v, k0]) (fun _ => Ok0 cA prog w base g₀ o₀ s W H') E s := by
  refine @bc _ fun k_ => ?_
  obtain ⟨t, a, xs, e1, hH, e⟩ := onO_is e
  rw [e1] at ry
  cases xs with
  | nil => cases e
  | cons x xs =>
    have e2 := Option.some.inj e
    obtain ⟨e0_, hw, vs, n, ho, hn, q⟩ := list_of S (y := .none) hH rfl ry
    obtain ⟨tk, e3⟩ := rk
    cases vs with
    | nil => exact q.elim
    | cons z vs =>
      apply k_; clear k_
      subst e0_ e2 e3
      refine call_meets PySem.F.slot_list_pop ⟨_, ho, rfl⟩ PySem.F.entry_list_pop (PySem.F.args_list_pop_2 _ _)
        (PySem.MeetsSeq.list_pop_at a (z :: vs).toArray n 0 tk 0 z (by decide) (by simp [seqIndex?]) (by simp) (by rw [sizeLine_eq, List.size_toArray]; exact hn)) ⟨ho, ?_⟩
      refine Ok0.list S (vs' := vs) hw ⟨n + 1, ?_⟩ (Heap.SameBut.update ..) (Nat.le_of_succ_le hn) q.2
      rw [Heap.get?_update_self _ ho rfl]
      simp [Obj.mapSeq]
omit S in
theorem item_at {a : Addr} {k : Int} {X : Sem (Option (Nat × Value))} {vs : List Value} {n j : Nat} {B : Around} {Q : Option (Nat × Value) → Shared → Prop} {E' : Value → Shared → Prop} (h0 : ∀ n : Nat, k = Int.ofNat n → X = (seqItemAt a n >>= fun r => pure (r.map (n, ·))))
    (h1 : ∀ n : Nat, k = Int.negSucc n → X = (Builtin.List.listItems (.ref a) >>= fun xs => pure ((seqIndex? (Int.negSucc n) xs.size).bind fun i => xs[i]?.map (i, ·)))) (ho : s.heap.get? a = some { cls := .type "list", data := .seq vs.toArray n }) (hj : j < vs.length) (hk : k = (j : Nat) ∨ k < 0 ∧ k + vs.length = (j : Nat)) (h : Q (some (j, vs[j])) s) : wpAny (model prog w) B X Q E' s := by
  rcases hk with hk | ⟨hk, hk2⟩
  · rw [h0 j hk]
    refine wpAny_bind (wpAny_seqItemAt ho rfl (wpAny_pure ?_))
    rw [show vs.toArray[j]? = some vs[j] by simp [hj]]
    exact h
  · cases k with
    | ofNat n => exact absurd hk (Int.not_lt.mpr (Int.natCast_nonneg n))
    | negSucc m =>
      rw [h1 m rfl]
      refine wpAny_bind ?_
      refine wpAny_bind (wpAny_seqItems ho rfl (wpAny_pure (wpAny_pure ?_)))
      rw [seqIndex_neg hk (by rw [List.size_toArray]; (first | lia | omega)), List.size_toArray, hk2]
      simp only [Int.toNat_natCast, Option.bind_some, show vs.toArray[j]? = some vs[j] by simp [hj], Option.map_some]
      exact h
omit S in
theorem itemIdx_ok {k : Int} {n j : Nat} (e : itemIdx k n = some j) : j < n ∧ (k = (j : Nat) ∨ k < 0 ∧ k + n = (j : Nat)) := by
  unfold itemIdx at e
  split at e
  · have := Option.some.inj e
    (first | lia | omega)
  · have := (if_is e).1
    have := (if_is e).2
    (first | lia | omega)
theorem putItem {k : Int} {y x : V} {v u kv : Value} (ry : Rep cA s.heap W y v) (rk : Rep cA s.heap W (.int k) kv) (rx : Rep cA s.heap W x u) (e : Mine.setItem H k x y = some H') :
    wpAny (model prog w) A (PySem.setItem v kv u) (fun _ => Ok0 cA prog w base g₀ o₀ s W H') E s := by
  refine @bc _ fun k_ => ?_
  obtain ⟨t, a, xs, e1, hH, e⟩ := onO_is e
  obtain ⟨j, hj, e2⟩ := map_is e
  obtain ⟨hj, hk⟩ := itemIdx_ok hj
  rw [e1] at ry
  obtain ⟨e0, hw, vs, n, ho, hn, q⟩ := list_of S (y := .none) hH rfl ry
  obtain ⟨tk, e3⟩ := rk
  apply k_; clear k_
  subst e0 e3 e2
  have hq := q.length
  rw [hq] at hj hk
  unfold lim at hn
  have hT : s.TypeIs (.ref a) "list" := ⟨_, ho, rfl⟩
  unfold PySem.setItem
  try with_reducible refine wpAny_holding ?_
  refine wpAny_bind (wpAny_sequenceKey hT (by decide) ?_)
  refine wpAny_bind (wpAny_callSpecial?_slot (name := Str.ofString "__setitem__") hT slot_list_setitem
    (wpAny_call_entry slot_list_setitem hT entry_list_setitem ?_ (args_list_setitem _ _ _)))
  show wpAny _ _ (Builtin.List.listSubscript? (.int k tk) >>= _) _ _ s
  refine wpAny_bind (wpAny_listSubscript_int (hk.elim (fun e => fitsIndex_of (by (first | lia | omega)) (by (first | lia | omega))) fun e => fitsIndex_neg e.1 (by (first | lia | omega))) ?_)
  refine wpAny_bind (item_at (fun n e => by rw [e]; rfl) (fun n e => by rw [e]; rfl) ho hj hk ?_)
  refine wpAny_bind (wpAny_setSeqItemAt ho rfl (wpAny_pure ⟨.none, rfl, wpAny_pure (Ok0.list S (vs' := vs.set j u) hw ⟨n, ?_⟩ (Heap.SameBut.update ..) (by rw [List.length_set]; exact hn) (q.set cA j rx))⟩))
  rw [Heap.get?_update_self _ ho rfl]
  simp [Obj.mapSeq]
end
end Mine
set_option backward.match.sparseCases false
namespace Mine
open PySem PySem.W PyProof.Rows PySem.SeqAt PySem.Calls
section
variable {w : World} {base : Heap} {g₀ : Array GenState} {o₀ : OsState}
variable {A : Around} {E : Value → Shared → Prop} {s s' : Shared} {W : Wd} {H H' : St} {K : Frag}
structure Made (cA : Cls → Addr) (s : Shared) (W : Wd) (xs : List V) (v : Value) (s' : Shared) : Prop where
  ex : ∃ a vs, v = .ref a ∧ s.heap.get? a = none ∧ s'.heap.PlainList a vs.toArray ∧ vs.length = xs.length ∧ (xs.length ≤ lim → Reps cA s.heap W xs vs)
  keep : ∀ b o, s.heap.get? b = some o → s'.heap.get? b = some o
  gens : s'.gens = s.gens
  os : s'.os = s.os
theorem Made.frz (S : StOk cA prog w base g₀ o₀ s W H) {xs : List V} {v : Value} (m : Made cA s W xs v s') (hn : xs.length ≤ lim) : Ok1 cA prog w base g₀ o₀ s W H (.lst xs) v s' := by
  refine @bc _ fun k_ => ?_
  obtain ⟨⟨a, vs, e0_, hf, hl, e, r⟩, k, hg, ho⟩ := m
  apply k_; clear k_
  subst e0_
  exact ⟨Ext.of_keeps k, S.grow k hg ho, ⟨a, vs, rfl, S.free hf, hl, by (first | lia | omega), (r hn).keeps (fun b o hw q => ⟨k b o q, hw⟩)⟩⟩
theorem StOk.own {t : Tag} {a : Addr} {o : O} (S : StOk cA prog w base g₀ o₀ s W H) (hf : s.heap.get? a = none) (k : ∀ b o, s.heap.get? b = some o → s'.heap.get? b = some o) (hg : s'.gens = s.gens) (ho : s'.os = s.os)
    (hl : ∃ o, s'.heap.get? a = some o) (hq : ObjAt cA prog w s'.heap (W.put a (.obj t)) t a o) : StOk cA prog w base g₀ o₀ s' (W.put a (.obj t)) (upd H t (some (a, o))) := by
  have S' := S.owned (ow := .obj t) hf k hl hg ho
  refine ⟨S'.keep, S'.wbase, S'.live, fun t' a' o' e => ?_, S'.gens, S'.os⟩
  by_cases h : t' = t
  · subst h
    rw [upd_same] at e
    cases e
    exact hq
  · rw [upd_ne _ _ h] at e
    exact S'.objs t' a' o' e
theorem Made.thw (S : StOk cA prog w base g₀ o₀ s W H) {xs : List V} {v : Value} {t : Tag} (m : Made cA s W xs v s') (hn : xs.length ≤ lim) :
    ∃ a, v = .ref a ∧ Ext NP s W s' (W.put a (.obj t)) ∧ StOk cA prog w base g₀ o₀ s' (W.put a (.obj t)) (upd H t (some (a, .list xs))) := by
  refine @bc _ fun k_ => ?_
  obtain ⟨⟨a, vs, e0_, hf, hl, e, r⟩, k, hg, ho⟩ := m
  apply k_; clear k_
  subst e0_
  have E1 : Ext NP s W s' (W.put a (.obj t)) := Ext.owned hf (S.free hf) k
  refine ⟨a, rfl, E1, S.own hf k hg ho (let ⟨n, e⟩ := hl; ⟨_, e⟩) ⟨Wd.put_self .., vs, hl, by (first | lia | omega), E1.reps (r hn)⟩⟩
structure Got (cA : Cls → Addr) (prog : Program) (w : World) (base : Heap) (g₀ : Array GenState) (o₀ : OsState) (s : Shared) (W : Wd) (H : St) (xs : List V) (v : Value) (s' : Shared) : Prop where
  ex : ∃ a vs W', v = .ref a ∧ s.heap.get? a = none ∧ Ext NP s W s' W' ∧ StOk cA prog w base g₀ o₀ s' W' H ∧ W' a = some .temp ∧ s'.heap.PlainList a vs.toArray ∧ vs.length = xs.length ∧ (xs.length ≤ lim → Reps cA s'.heap W' xs vs)
theorem Made.got (S : StOk cA prog w base g₀ o₀ s W H) {xs : List V} {v : Value} (m : Made cA s W xs v s') : Got cA prog w base g₀ o₀ s W H xs v s' := by
  refine @bc _ fun k_ => ?_
  obtain ⟨⟨a, vs, e0_, hf, hl, e, r⟩, k, hg, ho⟩ := m
  apply k_; clear k_
  subst e0_
  have E1 : Ext NP s W s' (W.put a .temp) := Ext.owned hf (S.free hf) k
  exact ⟨a, vs, W.put a .temp, rfl, hf, E1, S.owned hf k (let ⟨n, e⟩ := hl; ⟨_, e⟩) hg ho, Wd.put_self .., hl, e, fun hn => E1.reps (r hn)⟩
theorem made_push {xs : List V} {vs : List Value} {t : Nat} (e : vs.length = xs.length) (r : xs.length ≤ lim → Reps cA s.heap W xs vs) :
    Made cA s W xs (.ref s.heap.objs.size) { s with heap := s.heap.push { cls := .type "list", data := .seq vs.toArray }, toks := t } :=
  ⟨⟨_, vs, rfl, size_free _, ⟨0, Heap.get?_push_size _ rfl⟩, e, r⟩, fun _ _ q => Heap.get?_push_of_some _ q, rfl, rfl⟩
theorem lst_add (S : StOk cA prog w base g₀ o₀ s W H) {x y : V} {v u : Value} {xs ys : List V} (rx : Rep cA s.heap W x v) (ry : Rep cA s.heap W y u) (ex : itemsV H x = some xs) (ey : itemsV H y = some ys) (hn : xs.length + ys.length ≤ lim) :
    wpAny (model prog w) A (binaryOp .Add v u) (Made cA s W (xs ++ ys)) E s := by
  refine @bc _ fun k_ => ?_
  obtain ⟨a, vs, e0_, ⟨n, hl⟩, n1, q1⟩ := itemsV_at S rx ex
  apply k_; clear k_
  subst e0_
  refine @bc _ fun k_ => ?_
  obtain ⟨b, us, e0_, ⟨n', hl'⟩, n2, q2⟩ := itemsV_at S ry ey
  apply k_; clear k_
  subst e0_
  have l1 := q1.length; have l2 := q2.length
  refine PySem.P.add_list hl hl' ?_ (by rw [sizeLine_eq]; unfold lim at hn; simp; (first | lia | omega))
  have := made_push (s := s) (W := W) (xs := xs ++ ys) (vs := vs ++ us) (t := s.toks) (by simp [l1, l2]) fun _ => q1.append cA q2
  simpa using this
theorem foldl_same : ∀ (k : Nat) (u : Value) (acc : Array Value), List.foldl (fun x1 x2 => x1 ++ x2) acc (List.replicate k #[u]) = acc ++ (List.replicate k u).toArray
  | 0, u, acc => by simp
  | k + 1, u, acc => by rw [List.replicate_succ, List.foldl_cons, foldl_same k u]; apply Array.toList_inj.mp; simp [List.replicate_succ]
theorem lst_rep (S : StOk cA prog w base g₀ o₀ s W H) {x z : V} {v u : Value} {k : Int} (rx : Rep cA s.heap W x v) (ry : Rep cA s.heap W (.int k) u) (ex : itemsV H x = some [z]) (hk : k < 16777216) (hk' : -9223372036854775808 ≤ k) :
    wpAny (model prog w) A (binaryOp .Mult v u) (Made cA s W (List.replicate k.toNat z)) E s := by
  refine @bc _ fun k_ => ?_
  obtain ⟨a, vs, e0_, ⟨n, hl⟩, n1, q1⟩ := itemsV_at S rx ex
  apply k_; clear k_
  subst e0_
  obtain ⟨t, rfl⟩ := ry
  have l1 := q1.length
  obtain ⟨c, rfl⟩ : ∃ c, vs = [c] := by
    cases vs with
    | nil => simp at l1
    | cons c r => cases r with | nil => exact ⟨c, rfl⟩ | cons _ _ => simp at l1
  refine wpAny_binaryOp_repeat_ref (T := "list") (U := "int") (by decide) ⟨_, hl, rfl⟩ (fun s' => typeIs_int s' k t) noFill_list_mul F.fills_int_mul F.slot_int_rmul repeat_list F.slot_int_index.lookup
    (call_meets F.slot_int_rmul (typeIs_int s k t) F.entry_int_rmul (F.args_int_rmul_2 _ _) (int___rmul___int_list k t a _ n)
      ⟨hl, rfl, ⟨_, hl, rfl⟩, call_meets F.slot_list_mul ⟨_, hl, rfl⟩ F.entry_list_mul (F.args_list_mul_2 _ _)
        (AutoListH.list___mul___list_int_3 a _ n k t (by simp [Builtin.List.listFitsIndex]; (first | lia | omega)) (by simp; (first | lia | omega)) (by simp [Builtin.List.listTooLong, sizeLine]; (first | lia | omega)))
        ⟨hl, ?_⟩⟩)
  have e : (List.foldl (fun x1 x2 => x1 ++ x2) #[] (List.replicate (if ([c].toArray : Array Value).isEmpty = true then 0 else k.toNat) [c].toArray)) = (List.replicate k.toNat c).toArray := by
    rw [if_neg (by simp)]
    have := foldl_same k.toNat c #[]
    simpa using this
  rw [e]
  exact made_push (by simp) fun _ => Reps.replicate cA q1.1 _
theorem lst_copy (S : StOk cA prog w base g₀ o₀ s W H) {x : V} {v : Value} {xs : List V} (rx : Rep cA s.heap W x v) (ex : itemsV H x = some xs) :
    wpAny (model prog w) A (call (.type "list") [v]) (Made cA s W xs) E s := by
  refine @bc _ fun k_ => ?_
  obtain ⟨a, vs, e0_, ⟨n, hl⟩, n1, q1⟩ := itemsV_at S rx ex
  apply k_; clear k_
  subst e0_
  refine call_list_seq a (.inl rfl) hl rfl rfl (fun h' c' k e => ?_) (by rw [sizeLine_eq]; unfold lim at n1; simpa using n1)
  exact ⟨⟨_, vs, rfl, size_free _, ⟨_, e⟩, q1.length.symm, fun _ => q1⟩, k, rfl, rfl⟩
theorem clipAt_eq (n : Nat) (i : Int) : clipAt n i = clip n i := by
  have h := clipAt_cast n i
  unfold clip
  split
  · rename_i hi
    rw [if_pos hi] at h
    (first | lia | omega)
  · rename_i hi
    rw [if_neg hi] at h
    show clipAt n i = min i.toNat n
    (first | lia | omega)
theorem reps_pick {xs : List V} {vs : List Value} {h : Heap} (q : Reps cA h W xs vs) (i j : Nat) : Reps cA h W ((xs.take j).drop i) ((vs.drop i).take (j - i)) := by
  rw [← List.drop_take]
  exact Reps.drop cA i (Reps.take cA j q)
theorem ev_slice {env : Env} {value : Expr} {lower upper step : Option Expr} {p pos : Pos} {Q : Value → Shared → Prop}
    (h : wpAny (model prog w) A (eval value env) (fun o s₁ => wpAny (model prog w) A (evalPart lower env) (fun vl s₂ => wpAny (model prog w) A (evalPart upper env) (fun vu s₃ => wpAny (model prog w) A (evalPart step env) (fun vs s₄ =>
      ∃ l items lo hi st, o = .ref l ∧ s₄.heap.IsList l items ∧ items.size ≤ sizeLine ∧ IsPart vl lo ∧ IsPart vu hi ∧ IsPart vs st ∧ st ≠ some 0 ∧
        Q (.ref (s₄.heap.objs.size + 1)) { s₄ with heap := (s₄.heap.push { cls := .type "slice", data := .fields #[vl, vu, vs] }).push { cls := .type "list", data := .seq (slicePick items lo hi st) } }) E s₃) E s₂) E s₁) E s) :
    wpAny (model prog w) A (eval (.Subscript value (.Slice lower upper step p) pos) env) Q E s := by
  simp only [eval_Subscript]
  refine wpAny_bind (wpAny_mono h (fun o s₁ h₁ => wpAny_bind (wpAny_holding (wpAny_Slice (wpAny_mono h₁ (fun vl s₂ h₂ => wpAny_mono h₂ (fun vu s₃ h₃ => wpAny_mono h₃ (fun vs s₄ h₄ => wpAny_bind (wpAny_standAt ?_)) fun _ _ x => x) fun _ _ x => x) fun _ _ x => x)))) fun _ _ x => x)
  refine @bc _ fun k_ => ?_
  obtain ⟨l, items, lo, hi, st, e0_, hl, hsz, pl, pu, ps, h0, hQ⟩ := h₄
  apply k_; clear k_
  subst e0_
  have hT : ({ s₄ with heap := s₄.heap.push { cls := .type "slice", data := .fields #[vl, vu, vs] } } : Shared).TypeIs (.ref l) "list" := (hl.push _).typeIs
  have get : wpAny (model prog w) A (getItem (.ref l) (.ref s₄.heap.objs.size)) (fun r s₃ => wpAny (model prog w) A (letTemporaryGo value (.ref l) r >>= fun _ => pure r) Q E s₃) E { s₄ with heap := s₄.heap.push { cls := .type "slice", data := .fields #[vl, vu, vs] } } := by
    refine wpAny_getItem_list_slice (hl.push _) (Heap.IsSliceOf.new ..) pl pu ps h0 ?_ hsz
    rw [Heap.size_push]
    exact wpAny_bind (wpAny_letTemporaryGo (wpAny_pure hQ))
  have fin : wpAny (model prog w) A (subscripted (.Slice lower upper step p) false (.ref l) (.ref s₄.heap.objs.size)) (fun r s₃ => wpAny (model prog w) A (letTemporaryGo value (.ref l) r >>= fun _ => pure r) Q E s₃) E { s₄ with heap := s₄.heap.push { cls := .type "slice", data := .fields #[vl, vu, vs] } } := by
    cases step with
    | none => exact wpAny_operating get
    | some st => exact wpAny_operating get
  refine wpAny_bind ?_
  refine wpAny_bind (wpAny_specialOf hT list_getitem_lookup ?_)
  exact wpAny_pure (wpAny_bind fin)
theorem made_slice {xs : List V} {vs : List Value} {vl vu vst : Value} (e : vs.length = xs.length) (r : Reps cA s.heap W xs vs) :
    Made cA s W xs (.ref (s.heap.objs.size + 1)) { s with heap := (s.heap.push { cls := .type "slice", data := .fields #[vl, vu, vst] }).push { cls := .type "list", data := .seq vs.toArray } } := by
  refine ⟨⟨_, vs, rfl, ?_, ⟨0, ?_⟩, e, fun _ => r⟩, fun _ _ q => Heap.get?_push_of_some _ (Heap.get?_push_of_some _ q), rfl, rfl⟩
  · cases q : s.heap.get? (s.heap.objs.size + 1) with
    | none => rfl
    | some o => exact absurd (Heap.lt_size q) (Nat.not_lt.mpr (Nat.le_succ _))
  · have := Heap.get?_push_size (s.heap.push { cls := .type "slice", data := .fields #[vl, vu, vst] }) (o := { cls := .type "list", data := .seq vs.toArray }) rfl
    rw [Heap.size_push] at this
    exact this
theorem made_disp {xs : List V} {vs : List Value} (r : Reps cA s.heap W xs vs) :
    Made cA s W xs (.ref s.heap.objs.size) { s with heap := s.heap.push { cls := .type "list", data := .seq vs.toArray } } := made_push (r.length cA).symm fun _ => r
theorem made_tup (S : StOk cA prog w base g₀ o₀ s W H) {xs : List V} {vs : List Value} (hn : xs.length ≤ lim) (r : Reps cA s.heap W xs vs) :
    Ok1 cA prog w base g₀ o₀ s W H (.tup xs) (.ref s.heap.objs.size) { s with heap := s.heap.push { cls := .type "tuple", data := .seq vs.toArray } } :=
  ⟨Ext.of_keeps fun _ _ q => Heap.get?_push_of_some _ q, S.grow fun _ _ q => Heap.get?_push_of_some _ q, ⟨_, vs, rfl, S.fresh, ⟨_, Heap.get?_push_size _ rfl, rfl, _, rfl⟩, by rw [← r.length]; exact hn, r.keeps fun b o hw q => ⟨Heap.get?_push_of_some _ q, hw⟩⟩⟩
end
end Mine
set_option backward.match.sparseCases false
namespace Mine
open PySem PySem.W PyProof.Rows PySem.SeqAt PySem.Calls
theorem part_bounds (lo hi : Int) (n : Nat) : sliceBounds (some lo) (some hi) none n = (((clip n lo : Nat) : Int), ((clip n hi : Nat) : Int), 1) := by
  simp only [sliceBounds_plain]
  simp only [Option.elim, clipAt_eq]
section
variable {w : World} {base : Heap} {g₀ : Array GenState} {o₀ : OsState}
variable {A : Around} {E : Value → Shared → Prop} {s s' : Shared} {W : Wd} {H H' : St} {K : Frag}
theorem items_at {M : Model} {l : Addr} {items : Array Value} {n : Nat} {Q : Array Value → Shared → Prop} (ho : s.heap.get? l = some { cls := .type "list", data := .seq items n }) (h : Q items s) : wpAny M A (Builtin.List.listItems (.ref l)) Q E s := by
  unfold Builtin.List.listItems
  exact wpAny_bind (wpAny_seqItems ho rfl (wpAny_pure h))
variable (S : StOk cA prog w base g₀ o₀ s W H)
include S
theorem putSlice {lo hi : Int} {sl : Addr} {y : V} {ys : List V} {v u lv hv : Value} {us : List Value} {b : Addr} (hu : u = .ref b) (hb : s.heap.PlainList b us.toArray) (rx : Reps cA s.heap W ys us) (ry : Rep cA s.heap W y v)
    (hsl : s.heap.IsSliceOf sl lv hv .none) (rl : Rep cA s.heap W (.int lo) lv) (rh : Rep cA s.heap W (.int hi) hv) (e : setSlc H lo hi ys y = some H') :
    wpAny (model prog w) A (PySem.setItem v (.ref sl) u) (fun _ => Ok0 cA prog w base g₀ o₀ s W H') E s := by
  subst hu
  refine @bc _ fun k_ => ?_
  obtain ⟨t, a, xs, e1, hH, e⟩ := onO_is e
  obtain ⟨hlen, e2⟩ := if_is e
  rw [e1] at ry
  obtain ⟨e0_, hw, vs, n, ho, hn, q⟩ := list_of S (y := .none) hH rfl ry
  obtain ⟨t1, e3⟩ := rl
  obtain ⟨t2, e4⟩ := rh
  apply k_; clear k_
  subst e0_ e2 e3 e4
  have hq := q.length
  have hx := rx.length
  unfold lim at hn hlen
  have hT : s.TypeIs (.ref a) "list" := ⟨_, ho, rfl⟩
  refine @bc _ fun k_ => ?_
  obtain ⟨os, hos, hcs, hds⟩ := id hsl
  apply k_; clear k_
  have hTs : s.TypeIs (.ref sl) "slice" := ⟨os, hos, hcs⟩
  obtain ⟨nb, hbo⟩ := hb
  have hTb : s.TypeIs (.ref b) "list" := ⟨_, hbo, rfl⟩
  unfold PySem.setItem
  try with_reducible refine wpAny_holding ?_
  refine wpAny_bind (wpAny_sequenceKey hT (by decide) ?_)
  refine wpAny_bind (wpAny_callSpecial?_slot (name := Str.ofString "__setitem__") hT slot_list_setitem
    (wpAny_call_entry slot_list_setitem hT entry_list_setitem ?_ (args_list_setitem _ _ _)))
  show wpAny _ _ (Builtin.List.listSubscript? (.ref sl) >>= _) _ _ s
  refine wpAny_bind ?_
  unfold Builtin.List.listSubscript?
  refine wpAny_bind (wpAny_specialOf hTs slice_no_index ?_)
  refine wpAny_pure ?_
  refine wpAny_bind (wpAny_typeOf hTs ?_)
  rw [listSliceParts_eq]
  refine wpAny_bind (wpAny_bind (wpAny_field hos hds (x := .none) rfl (wpAny_bind (wpAny_listPart .none ?_))))
  refine wpAny_bind (wpAny_field hos hds (x := .int lo t1) rfl (wpAny_bind (wpAny_listPart (.int lo t1) ?_)))
  refine wpAny_bind (wpAny_field hos hds (x := .int hi t2) rfl (wpAny_bind (wpAny_listPart (.int hi t2) (wpAny_pure ?_))))
  dsimp only
  have head : ∀ {β : Type} {k : Array Value → Sem β} {Q : β → Shared → Prop} {E' : Value → Shared → Prop} {A' : Around}, wpAny (model prog w) A' (k us.toArray) Q E' s →
      wpAny (model prog w) A' (Builtin.List.listItems (.ref b) >>= k) Q E' s ∧ wpAny (model prog w) A' (Builtin.List.listAllItems (.ref b) "must assign iterable to extended slice" >>= k) Q E' s := by
    intro β k Q E' A' hk
    refine ⟨wpAny_bind (items_at hbo hk), wpAny_bind ?_⟩
    refine wpAny_bind (wpAny_typeOf hTb ?_)
    exact items_at hbo hk
  let zs : List Value := vs.take (clip vs.length lo) ++ us ++ vs.drop (Nat.max (clip vs.length lo) (clip vs.length hi))
  have hzs : zs.length ≤ 16777216 := by
    have h1 : (vs.take (clip vs.length lo)).length ≤ clip vs.length lo := List.length_take_le _ _
    have h2 : clip vs.length lo ≤ Nat.max (clip vs.length lo) (clip vs.length hi) := Nat.le_max_left _ _
    have h3 : (vs.take (clip vs.length lo)).length ≤ vs.length := by rw [List.length_take]; exact Nat.min_le_right _ _
    simp only [zs, List.length_append, List.length_drop]
    (first | lia | omega)
  have hfin : vs.toArray.extract 0 ((clip vs.toArray.size lo : Nat) : Int).toNat ++ us.toArray ++ vs.toArray.extract (max ((clip vs.toArray.size lo : Nat) : Int) ((clip vs.toArray.size hi : Nat) : Int)).toNat = zs.toArray := by
    have h1 : ((clip vs.toArray.size lo : Nat) : Int).toNat = clip vs.length lo := by rw [List.size_toArray]; (first | lia | omega)
    have h2 : (max ((clip vs.toArray.size lo : Nat) : Int) ((clip vs.toArray.size hi : Nat) : Int)).toNat = Nat.max (clip vs.length lo) (clip vs.length hi) := by
      rw [List.size_toArray]
      show _ = max (clip vs.length lo) (clip vs.length hi)
      omega
    rw [h1, h2]
    apply Array.toList_inj.mp
    simp only [zs, Array.toList_append, Array.toList_extract, List.extract_eq_take_drop, List.drop_zero, Nat.sub_zero, List.size_toArray]
    congr 1
    exact List.take_of_length_le (by rw [List.length_drop]; exact Nat.le_refl _)
  have fin : Ok0 cA prog w base g₀ o₀ s W (upd H t (some (a, .list (setSlice xs lo hi ys)))) { s with heap := s.heap.update a (Obj.mapSeq fun xs => xs.extract 0 ((clip vs.toArray.size lo : Nat) : Int).toNat ++ us.toArray ++ xs.extract (max ((clip vs.toArray.size lo : Nat) : Int) ((clip vs.toArray.size hi : Nat) : Int)).toNat) } := by
    refine Ok0.list S (vs' := zs) hw ?_ (Heap.SameBut.update ..) hzs ?_
    · have := get?_update_seq (c := "list") ho (fun xs => xs.extract 0 ((clip vs.toArray.size lo : Nat) : Int).toNat ++ us.toArray ++ xs.extract (max ((clip vs.toArray.size lo : Nat) : Int) ((clip vs.toArray.size hi : Nat) : Int)).toNat)
      rw [hfin] at this
      exact ⟨_, this⟩
    · unfold setSlice
      rw [hq]
      exact ((q.take cA _).append cA rx).append cA (q.drop cA _)
  split
  · refine (head ?_).1
    refine wpAny_bind (items_at ho ?_)
    refine wpAny_bind (wpAny_of_eq (sliceIndices_raw (some lo) (some hi) none vs.toArray.size (by simp)) ?_)
    rw [part_bounds]
    dsimp only
    rw [if_pos (by decide)]
    refine wpAny_bind (wpAny_rule ?_)
    rw [if_neg (by simp [Builtin.List.listTooLong, sizeLine]; (first | lia | omega))]
    refine wpAny_bind (m := Builtin.List.listUpdate (.ref a) _) (wpAny_updateSeq ho rfl ?_ (by rw [sizeLine_eq, List.size_toArray]; exact hn) (by rw [hfin, sizeLine_eq, List.size_toArray]; (first | lia | omega)))
    exact wpAny_bind (wpAny_letGo (wpAny_pure ⟨.none, rfl, wpAny_pure fin⟩))
  · refine (head ?_).2
    refine wpAny_bind (items_at ho ?_)
    refine wpAny_bind (wpAny_of_eq (sliceIndices_raw (some lo) (some hi) none vs.toArray.size (by simp)) ?_)
    rw [part_bounds]
    dsimp only
    rw [if_pos (by decide)]
    refine wpAny_bind (wpAny_rule ?_)
    rw [if_neg (by simp [Builtin.List.listTooLong, sizeLine]; (first | lia | omega))]
    refine wpAny_bind (m := Builtin.List.listUpdate (.ref a) _) (wpAny_updateSeq ho rfl ?_ (by rw [sizeLine_eq, List.size_toArray]; exact hn) (by rw [hfin, sizeLine_eq, List.size_toArray]; (first | lia | omega)))
    exact wpAny_bind (wpAny_letGo (wpAny_pure ⟨.none, rfl, wpAny_pure fin⟩))
end
end Mine
set_option backward.match.sparseCases false
namespace Mine
open PySem PySem.W PyProof.Rows PySem.SeqAt PySem.Calls
noncomputable def nameTab : List String := ["need_writable", "need_room", "reached", "tell_ahead", "tell_behind", "text_out", "text_in", "hung_out", "hung_in", "put_in", "insert_at", "insert", "delete", "insert_piece", "need_visible", "markers_ahead", "undo_insert", "undo_delete", "undo_row", "above_boundaries", "undo_group", "split_there", "here_at", "range_there", "is_untouched", "undone_insert", "undone_delete", "undone_row", "rows_in_region", "trimmed_count", "last_was_undo", "drop_points", "elder_rows", "is_in_row", "begin_undo", "end_undo", "go_on_behind_redo", "undo_redo", "region_more", "undo_in_region", "_law_deck", "_law_draw", "_law_parts", "_law_changed", "_law_undone", "law", "__init__", "count", "is_at_boundary", "boundary", "note_state", "note_begin", "note_insert", "note_delete", "__init__", "__init__", "__init__", "size", "codes", "move_gap", "widen_gap", "insert", "delete", "__init__", "numbers", "within", "inserted", "deleted", "__init__", "size", "codes", "goto", "is_modified", "touch", "__init__", "__init__", "text_comes", "text_goes"]
noncomputable def Fn.name (f : Fn) : String := (nameTab[f.i.1]?).getD ""
noncomputable def Cls.name : Cls → String
  | .gap => "GapText" | .markers => "Markers" | .buffer => "Buffer" | .ulist => "UndoList" | .recording => "Recording" | .undoing => "Undoing" | .beside => "Beside" | .piece => "Piece"
noncomputable def Glob.name : Glob → String
  | .boundary => "BOUNDARY" | .inRegion => "IN_REGION" | .longest => "LONGEST"
inductive Bi | len | abs | sum | sorted | range | min | max | list
  deriving DecidableEq
noncomputable def Bi.name : Bi → String
  | .len => "len" | .abs => "abs" | .sum => "sum" | .sorted => "sorted" | .range => "range" | .min => "min" | .max => "max" | .list => "list"
noncomputable def Bi.val : Bi → Value
  | .len => .builtin "len" | .abs => .builtin "abs" | .sum => .builtin "sum" | .sorted => .builtin "sorted" | .range => .type "range" | .min => .builtin "min" | .max => .builtin "max" | .list => .type "list"
noncomputable def methApart (f : Fn) : Bool := match f.cls with
  | some c => c.fields.all fun n => !(Str.ofString n == Str.ofString f.name)
  | .none => true
theorem methApart_all (f : Fn) : methApart f = true := (show ∀ i : Fin 78, methApart ⟨i⟩ = true by decide +kernel) f.i
structure KOk (K : Frag) (cA : Cls → Addr) (fA : Fn → Addr) (base : Heap) : Prop where
  inK : K.In base
  top : ∃ mg mb, base.Ns mainGlobals mg ∧ base.Ns builtinsNs mb ∧ base.NoLimit ∧ (∀ x : Str, x ≠ "__name__" → mb x = bootBuiltins x)
  gfn : ∀ f : Fn, f.cls = .none → nsIn K mainGlobals (Str.ofString f.name) = some (some (.ref (fA f)))
  gcls : ∀ c : Cls, nsIn K mainGlobals (Str.ofString c.name) = some (some (.ref (cA c)))
  gbi : ∀ b : Bi, nsIn K mainGlobals (Str.ofString b.name) = some none ∧ bootBuiltins (Str.ofString b.name) = some b.val
  gbnd : ∃ a o t n, nsIn K mainGlobals (Str.ofString "BOUNDARY") = some (some (.ref a)) ∧ K.lookup a = some o ∧ o.cls = .type "tuple" ∧ o.data = .seq #[.str (Str.ofString "boundary") t] n
  gint : (∃ t, nsIn K mainGlobals (Str.ofString "IN_REGION") = some (some (.int (-1) t))) ∧ ∃ t, nsIn K mainGlobals (Str.ofString "LONGEST") = some (some (.int 4194304 t))
  cls : ∀ c, ClsOk K (cA c) c
  makes : ∀ c, makesIn K (cA c) = true ∧ findIn K (.ref (cA c)) "__init__" = some (some (.ref (fA (initFn c))))
  meth : ∀ f c, f.cls = some c → findIn K (.ref (cA c)) (Str.ofString f.name) = some (some (.ref (fA f)))
  fn : ∀ f, isFn K (.ref (fA f)) = true ∧ keepIn K (.ref (fA f)) = true
  keepc : ∀ c, keepIn K (.ref (cA c)) = true
noncomputable def lookOf (names : List (Str × NameKind)) : Str → Option NameKind := fun n => names.lookup n
noncomputable def apartS : List Str → Bool
  | [] => true
  | n :: ns => ns.all (fun m => !(m == n)) && apartS ns
structure FrOk (cA : Cls → Addr) (look : Str → Option NameKind) (N : List Str) (env : Env) (s : Shared) (W : Wd) (r : Loc) : Prop where
  kind : env.scope.kind = .function
  globals : env.globals = mainGlobals
  builtins : env.builtins = builtinsNs
  looks : ∀ n k, look n = some k → k ≠ .free → env.kindOf n = some k
  own : W env.locals = some .mach
  cells : ∀ n, look n = some .cell → ∃ c v, env.cells.lookup n = some c ∧ W c = some .mach ∧ c ≠ env.locals ∧ s.heap.IsCell c v
  capart : ∀ n n' c, look n = some .cell → look n' = some .cell → env.cells.lookup n = some c → env.cells.lookup n' = some c → n = n'
  apart : apartS N = true
  vars : ∃ m, s.heap.Ns env.locals m ∧ ∀ (i : Nat) n x, N[i]? = some n → r[i]? = some (some x) → ∃ v, Rep cA s.heap W x v ∧
    ((look n = some .local ∧ m n = some v) ∨ (look n = some .cell ∧ ∃ c, env.cells.lookup n = some c ∧ s.heap.IsCell c (some v)))
theorem ns_slots {h h' : Heap} {a : Addr} {m : Str → Option Value} (x : h.Ns a m) (k : ∀ o, h.get? a = some o → ∃ sl, h'.get? a = some { o with slots := sl }) : h'.Ns a m := by
  refine @bc _ fun k_ => ?_
  obtain ⟨o, es, ep, e, d, r⟩ := x
  obtain ⟨sl, e'⟩ := k o e
  apply k_; clear k_
  exact ⟨_, es, ep, e', d, r⟩
theorem cell_slots {h h' : Heap} {a : Addr} {v : Option Value} (x : h.IsCell a v) (k : ∀ o, h.get? a = some o → ∃ sl, h'.get? a = some { o with slots := sl }) : h'.IsCell a v := by
  refine @bc _ fun k_ => ?_
  obtain ⟨o, e, d⟩ := x
  obtain ⟨sl, e'⟩ := k o e
  apply k_; clear k_
  exact ⟨_, e', d⟩
section
variable {w : World} {base : Heap} {g₀ : Array GenState} {o₀ : OsState}
variable {A : Around} {E : Value → Shared → Prop} {s s' : Shared} {W W' : Wd} {H H' : St} {K : Frag}
variable {look : Str → Option NameKind} {N : List Str} {env : Env} {r : Loc}
noncomputable def PEnv (look : Str → Option NameKind) (env : Env) (b : Addr) : Prop := b = env.locals ∨ ∃ n, look n = some .cell ∧ env.cells.lookup n = some b
theorem FrOk.ext {P : Addr → Prop} (F : FrOk cA look N env s W r) (x : Ext P s W s' W') (hP : ∀ b, PEnv look env b → ¬ P b) : FrOk cA look N env s' W' r := by
  refine @bc _ fun k_ => ?_
  obtain ⟨h1, h2, h3, h4, h5, h6, h7, h8, m, h9, h10⟩ := F
  apply k_; clear k_
  have kl : ∀ o, s.heap.get? env.locals = some o → ∃ sl, s'.heap.get? env.locals = some { o with slots := sl } := fun o e => x.turn _ o h5 (hP _ (.inl rfl)) e
  have kc : ∀ n c, look n = some .cell → env.cells.lookup n = some c → ∀ o, s.heap.get? c = some o → ∃ sl, s'.heap.get? c = some { o with slots := sl } := fun n c hn hc o e => by
    refine @bc _ fun k_ => ?_
    obtain ⟨c', v, e1, e2, _, _⟩ := h6 n hn
    apply k_; clear k_
    rw [hc] at e1; cases e1
    exact x.turn _ o e2 (hP _ (.inr ⟨n, hn, hc⟩)) e
  refine ⟨h1, h2, h3, h4, x.mach _ h5, fun n hn => ?_, h7, h8, m, ns_slots h9 kl, fun i n y e1 e2 => ?_⟩
  · refine @bc _ fun k_ => ?_
    obtain ⟨c, v, e1, e2, e3, e4⟩ := h6 n hn
    apply k_; clear k_
    exact ⟨c, v, e1, x.mach _ e2, e3, cell_slots e4 (kc n c hn e1)⟩
  · obtain ⟨v, rv, q⟩ := h10 i n y e1 e2
    refine ⟨v, x.rep rv, ?_⟩
    refine @bc _ fun k_ => ?_
    rcases q with q | ⟨q1, c, q2, q3⟩ <;> (apply k_; clear k_)
    · exact .inl q
    · exact .inr ⟨q1, c, q2, cell_slots q3 (kc _ c q1 q2)⟩
theorem FrOk.ext0 (F : FrOk cA look N env s W r) (x : Ext NP s W s' W') : FrOk cA look N env s' W' r := F.ext x fun _ _ h => h
theorem ld_var (F : FrOk cA look N env s W r) {i : Nat} {n : Str} {x : V} {pos : Pos} {Q : Value → Shared → Prop} {M : Model} (hn : N[i]? = some n) (hx : r[i]? = some (some x)) (hd : (n == ("__debug__" : Str)) = false)
    (h : ∀ v, Rep cA s.heap W x v → Q v s) : wpAny M A (eval (.Name n pos) env) Q E s := by
  refine @bc _ fun k_ => ?_
  obtain ⟨m, h9, h10⟩ := F.vars
  obtain ⟨v, rv, q⟩ := h10 i n x hn hx
  apply k_; clear k_
  refine wpAny_Name ?_ hd
  refine @bc _ fun k_ => ?_
  rcases q with ⟨q1, q2⟩ | ⟨q1, c, q2, q3⟩ <;> (apply k_; clear k_)
  · exact wpAny_loadName_local F.kind (F.looks _ _ q1 (by decide)) h9 q2 (h v rv)
  · exact wpAny_loadName_cell F.kind (F.looks _ _ q1 (by decide)) q2 q3 (h v rv)
theorem name_inj {N : List Str} {i j : Nat} {n m : Str} (ha : apartS N = true) (hi : N[i]? = some n) (hj : N[j]? = some m) (h : i ≠ j) : n ≠ m := by
  induction N generalizing i j with
  | nil => simp at hi
  | cons a N ih =>
    simp only [apartS, Bool.and_eq_true, List.all_eq_true, Bool.not_eq_true'] at ha
    cases i with
    | zero =>
      cases j with
      | zero => exact absurd rfl h
      | succ j =>
        simp at hi hj
        subst hi
        have := ha.1 m (List.mem_of_getElem? hj)
        intro z
        rw [z, beq_self_eq_true] at this
        exact nomatch this
    | succ i =>
      cases j with
      | zero =>
        simp at hi hj
        subst hj
        have := ha.1 n (List.mem_of_getElem? hi)
        intro z
        rw [z, beq_self_eq_true] at this
        exact nomatch this
      | succ j => simp at hi hj; exact ih ha.2 hi hj (fun z => h (by rw [z]))
theorem st_var (S : StOk cA prog w base g₀ o₀ s W H) (F : FrOk cA look N env s W r) {i : Nat} {n : Str} {x : V} {v : Value} {Q : Unit → Shared → Prop} (hn : N[i]? = some n) (hi : i < r.length) (rv : Rep cA s.heap W x v)
    (hk : look n = some .local ∨ look n = some .cell)
    (h : ∀ s', Ext (PEnv look env) s W s' W → StOk cA prog w base g₀ o₀ s' W H → FrOk cA look N env s' W (r.put i x) → Q () s') : wpAny (model prog w) A (storeName env n v) Q E s := by
  refine @bc _ fun k_ => ?_
  obtain ⟨h1, h2, h3, h4, h5, h6, h7, h8, m, h9, h10⟩ := F
  apply k_; clear k_
  have other : ∀ (j : Nat) n' y, N[j]? = some n' → (r.put i x)[j]? = some (some y) → (j = i ∧ n' = n ∧ y = x) ∨ (j ≠ i ∧ r[j]? = some (some y) ∧ n' ≠ n) := fun j n' y e1 e2 => by
    by_cases q : j = i
    · subst q
      rw [e1] at hn; cases hn
      simp only [Loc.put, List.getElem?_set_self hi] at e2
      cases e2
      exact .inl ⟨rfl, rfl, rfl⟩
    · rw [Loc.put, List.getElem?_set_ne (Ne.symm q)] at e2
      exact .inr ⟨q, e2, name_inj h8 e1 hn q⟩
  rcases hk with hk | hk
  · refine wpAny_storeName_local (h4 _ _ hk (by decide)) h9 (fun h' hns hs => ?_) (by rw [h1]; rfl)
    have kk : ∀ b o, b ≠ env.locals → s.heap.get? b = some o → h'.get? b = some o := fun b o hb q => (hs.2 b hb).trans q
    have S' : StOk cA prog w base g₀ o₀ { s with heap := h', toks := s.toks + 1 } W H := S.machine h5 kk (let ⟨o, _, _, e, _⟩ := hns; ⟨o, e⟩)
    have E' : Ext (PEnv look env) s W { s with heap := h', toks := s.toks + 1 } W := Ext.machine h5 (.inl rfl) kk fun o _ _ => (let ⟨o', es, ep, e, d, _⟩ := hns; ⟨o', e, fun vs q => by rw [d] at q; cases q⟩)
    refine h _ E' S' ⟨h1, h2, h3, h4, h5, fun n' hn' => ?_, h7, h8, _, hns, fun j n' y e1 e2 => ?_⟩
    · refine @bc _ fun k_ => ?_
      obtain ⟨c, u, e1, e2, e3, o, e4, e5⟩ := h6 n' hn'
      apply k_; clear k_
      exact ⟨c, u, e1, e2, e3, o, kk _ _ e3 e4, e5⟩
    · refine @bc _ fun k_ => ?_
      rcases other j n' y e1 e2 with ⟨rfl, rfl, rfl⟩ | ⟨q1, q2, q3⟩ <;> (apply k_; clear k_)
      · exact ⟨v, E'.rep rv, .inl ⟨hk, by rw [if_pos rfl]⟩⟩
      · obtain ⟨u, ru, q⟩ := h10 j n' y e1 q2
        refine ⟨u, E'.rep ru, ?_⟩
        refine @bc _ fun k_ => ?_
        rcases q with ⟨q, q'⟩ | ⟨q, c, q', o, q4, q5⟩ <;> (apply k_; clear k_)
        · exact .inl ⟨q, by rw [if_neg q3]; exact q'⟩
        · refine .inr ⟨q, c, q', o, kk _ _ ?_ q4, q5⟩
          refine @bc _ fun k_ => ?_
          obtain ⟨c', _, e1', _, e3', _⟩ := h6 _ q
          apply k_; clear k_
          rw [q'] at e1'; cases e1'; exact e3'
  · refine @bc _ fun k_ => ?_
    obtain ⟨c, u, e1, e2, e3, e4⟩ := h6 _ hk
    apply k_; clear k_
    refine wpAny_storeName_cell h1 (h4 _ _ hk (by decide)) e1 e4 fun h' hc hs => ?_
    have kk : ∀ b o, b ≠ c → s.heap.get? b = some o → h'.get? b = some o := fun b o hb q => (hs.2 b hb).trans q
    have S' : StOk cA prog w base g₀ o₀ { s with heap := h' } W H := S.machine e2 kk (let ⟨o, e, _⟩ := hc; ⟨o, e⟩)
    have E' : Ext (PEnv look env) s W { s with heap := h' } W := Ext.machine e2 (.inr ⟨_, hk, e1⟩) kk fun o _ _ => (let ⟨o', e, d⟩ := hc; ⟨o', e, fun vs q => by rw [d] at q; cases q⟩)
    refine h _ E' S' ⟨h1, h2, h3, h4, h5, fun n' hn' => ?_, h7, h8, m, h9.at' fun o q => kk _ _ (Ne.symm e3) q, fun j n' y e1' e2' => ?_⟩
    · refine @bc _ fun k_ => ?_
      obtain ⟨c', u', f1, f2, f3, o, f4, f5⟩ := h6 n' hn'
      apply k_; clear k_
      by_cases q : c' = c
      · subst q; exact ⟨_, _, f1, f2, f3, hc⟩
      · exact ⟨c', u', f1, f2, f3, o, kk _ _ q f4, f5⟩
    · refine @bc _ fun k_ => ?_
      rcases other j n' y e1' e2' with ⟨rfl, rfl, rfl⟩ | ⟨q1, q2, q3⟩ <;> (apply k_; clear k_)
      · exact ⟨v, E'.rep rv, .inr ⟨hk, c, e1, hc⟩⟩
      · obtain ⟨u, ru, q⟩ := h10 j n' y e1' q2
        refine ⟨u, E'.rep ru, ?_⟩
        refine @bc _ fun k_ => ?_
        rcases q with ⟨q, q'⟩ | ⟨q, c', q', o, q4, q5⟩ <;> (apply k_; clear k_)
        · exact .inl ⟨q, q'⟩
        · refine .inr ⟨q, c', q', o, kk _ _ (fun z => ?_) q4, q5⟩
          subst z
          exact q3 (h7 _ _ _ q hk q' e1)
variable (KO : KOk K cA fA base)
include KO
theorem StOk.k (S : StOk cA prog w base g₀ o₀ s W H) : K.In s.heap := KO.inK.keeps S.keep
theorem ld_glob (S : StOk cA prog w base g₀ o₀ s W H) (F : FrOk cA look N env s W r) {x : Str} {v : Value} {pos : Pos} {Q : Value → Shared → Prop} {M : Model} (hl : look x = some .globalImplicit) (hd : (x == ("__debug__" : Str)) = false)
    (hx : nsIn K mainGlobals x = some (some v)) (h : Q v s) : wpAny M A (eval (.Name x pos) env) Q E s := by
  refine @bc _ fun k_ => ?_
  obtain ⟨mg, mb, g1, g2, g3, g4⟩ := KO.top
  apply k_; clear k_
  have G : s.heap.Ns mainGlobals mg := g1.keeps S.keep
  exact Name_function_global F.kind (F.looks _ _ hl (by decide)) (loadGlobal_global (F.globals ▸ G) (mg_of (S.k KO) G hx) h) hd
theorem ld_bi (S : StOk cA prog w base g₀ o₀ s W H) (F : FrOk cA look N env s W r) {b : Bi} {pos : Pos} {Q : Value → Shared → Prop} {M : Model} (hl : look (Str.ofString b.name) = some .globalImplicit)
    (h : Q b.val s) : wpAny M A (eval (.Name (Str.ofString b.name) pos) env) Q E s := by
  refine @bc _ fun k_ => ?_
  obtain ⟨mg, mb, g1, g2, g3, g4⟩ := KO.top
  apply k_; clear k_
  have G : s.heap.Ns mainGlobals mg := g1.keeps S.keep
  have B : s.heap.Ns builtinsNs mb := g2.keeps S.keep
  have hn : Str.ofString b.name ≠ ("__name__" : Str) := by cases b <;> decide
  exact Name_function_global F.kind (F.looks _ _ hl (by decide)) (loadGlobal_builtin (F.globals ▸ G) (mg_none_of (S.k KO) G (KO.gbi b).1) (F.builtins ▸ B) ((g4 _ hn).trans (KO.gbi b).2) h) (by cases b <;> decide)
theorem ld_globV (S : StOk cA prog w base g₀ o₀ s W H) (F : FrOk cA look N env s W r) {g : Glob} {pos : Pos} {Q : Value → Shared → Prop} {M : Model} (hl : look (Str.ofString g.name) = some .globalImplicit)
    (h : ∀ v, Rep cA s.heap W (globV g) v → Q v s) : wpAny M A (eval (.Name (Str.ofString g.name) pos) env) Q E s := by
  cases g
  · refine @bc _ fun k_ => ?_
    obtain ⟨a, o, t, n, e1, e2, e3, e4⟩ := KO.gbnd
    apply k_; clear k_
    refine ld_glob KO S F hl (by decide) e1 (h _ ⟨a, [.str (Str.ofString "boundary") t], rfl, S.wbase a o (KO.inK _ _ e2), ⟨o, S.k KO _ _ e2, e3, n, e4⟩, by simp [lim], ⟨t, rfl⟩, trivial⟩)
  · obtain ⟨t, e⟩ := KO.gint.1
    exact ld_glob KO S F hl (by decide) e (h _ ⟨t, rfl⟩)
  · obtain ⟨t, e⟩ := KO.gint.2
    exact ld_glob KO S F hl (by decide) e (h _ ⟨t, rfl⟩)
end
end Mine
set_option backward.match.sparseCases false
namespace Mine
open PySem PySem.W PyProof.Rows PySem.SeqAt PySem.Calls
theorem any_ok {α : Type} {P : α → Prop} {o : Option {a : α // P a}} {f : {a : α // P a} → Bool} (h : o.any f = true) : ∃ a, ∃ q : P a, f ⟨a, q⟩ = true := by
  cases o with
  | none => cases h
  | some a => exact ⟨a.1, a.2, h⟩
@[irreducible] noncomputable def chk {α : Type} {P : α → Prop} (o : Option {a : α // P a}) (f : α → Bool) : Bool := match o with
  | some a => f a.1
  | none => false
inductive ChkIs {α : Type} (P : α → Prop) (f : α → Bool) : Prop | mk (a : α) (h : P a) (e : f a = true)
theorem chk_ok {α : Type} {P : α → Prop} {o : Option {a : α // P a}} {f : α → Bool} (h : chk o f = true) : ChkIs P f := by
  unfold chk at h
  cases o with
  | none => cases h
  | some a => exact ⟨a.1, a.2, h⟩
theorem chk_of {α : Type} {P : α → Prop} {o : Option {a : α // P a}} {f : α → Bool} {a : α} {h : P a} (e : o = some ⟨a, h⟩) (q : f a = true) : chk o f = true := by
  unfold chk
  rw [e]
  exact q
theorem any_eq {α : Type} {o : Option α} {f : α → Bool} (h : o.any f = true) : ∃ a, o = some a ∧ f a = true := by
  cases o with
  | none => cases h
  | some a => exact ⟨a, rfl, h⟩
theorem and_ok {a b : Bool} (h : (a && b) = true) : a = true ∧ b = true := by
  cases a
  · exfalso
    cases h
  · exact ⟨rfl, h⟩
theorem dec_ok {p : Prop} [Decidable p] (h : decide p = true) : p := of_decide_eq_true h
theorem not_ok {b : Bool} (h : (!b) = true) : b = false := by cases b; rfl; cases h
noncomputable def notStar (x : Expr) : Bool := !(x.ctorIdx == 22)
noncomputable def isBase (x : Expr) : Bool := x.ctorIdx == 23 || x.ctorIdx == 20 || x.ctorIdx == 21
noncomputable def notSlice (x : Expr) : Bool := !(x.ctorIdx == 26)
noncomputable def asName' (x : Expr) : Option {n : Str // ∃ p, x = .Name n p} := if h_ : x.ctorIdx = 23 then @Expr.Name.elim (fun x => Option {n : Str // ∃ p, x = .Name n p}) x h_ fun n p => some ⟨n, p, rfl⟩ else none
noncomputable def asBin (x : Expr) : Option {t : Expr × Operator × Expr // ∃ p, x = .BinOp t.1 t.2.1 t.2.2 p} := if h_ : x.ctorIdx = 2 then @Expr.BinOp.elim (fun x => Option {t : Expr × Operator × Expr // ∃ p, x = .BinOp t.1 t.2.1 t.2.2 p}) x h_ fun l o r p => some ⟨(l, o, r), p, rfl⟩ else none
noncomputable def asCmps (x : Expr) : Option {t : Expr × List CmpOp × List Expr // ∃ p, x = .Compare t.1 t.2.1 t.2.2 p} := if h_ : x.ctorIdx = 15 then @Expr.Compare.elim (fun x => Option {t : Expr × List CmpOp × List Expr // ∃ p, x = .Compare t.1 t.2.1 t.2.2 p}) x h_ fun l os rs p => some ⟨(l, os, rs), p, rfl⟩ else none
noncomputable def two {α : Type} : (l : List α) → Option {t : α × α // l = [t.1, t.2]}
  | [a, b] => some ⟨(a, b), rfl⟩
  | _ => none
noncomputable def three {α : Type} : (l : List α) → Option {t : α × α × α // l = [t.1, t.2.1, t.2.2]}
  | [a, b, c] => some ⟨(a, b, c), rfl⟩
  | _ => none
noncomputable def asUn (x : Expr) : Option {t : UnaryOp × Expr // ∃ p, x = .UnaryOp t.1 t.2 p} := if h_ : x.ctorIdx = 3 then @Expr.UnaryOp.elim (fun x => Option {t : UnaryOp × Expr // ∃ p, x = .UnaryOp t.1 t.2 p}) x h_ fun o y p => some ⟨(o, y), p, rfl⟩ else none
noncomputable def isNot : (o : UnaryOp) → Option {u : Unit // o = .Not}
  | .Not => some ⟨(), rfl⟩
  | _ => none
noncomputable def isNeg : (o : UnaryOp) → Option {u : Unit // o = .USub}
  | .USub => some ⟨(), rfl⟩
  | _ => none
noncomputable def asIf (x : Expr) : Option {t : Expr × Expr × Expr // ∃ p, x = .IfExp t.1 t.2.1 t.2.2 p} := if h_ : x.ctorIdx = 5 then @Expr.IfExp.elim (fun x => Option {t : Expr × Expr × Expr // ∃ p, x = .IfExp t.1 t.2.1 t.2.2 p}) x h_ fun t a b p => some ⟨(t, a, b), p, rfl⟩ else none
noncomputable def asBools (x : Expr) : Option {t : BoolOp × List Expr × Pos // x = .BoolOp t.1 t.2.1 t.2.2} := if h_ : x.ctorIdx = 0 then @Expr.BoolOp.elim (fun x => Option {t : BoolOp × List Expr × Pos // x = .BoolOp t.1 t.2.1 t.2.2}) x h_ fun o xs p => some ⟨(o, xs, p), rfl⟩ else none
noncomputable def isAnd : (o : BoolOp) → Option {u : Unit // o = .And}
  | .And => some ⟨(), rfl⟩
  | _ => none
noncomputable def isOr : (o : BoolOp) → Option {u : Unit // o = .Or}
  | .Or => some ⟨(), rfl⟩
  | _ => none
noncomputable def Rest (o : BoolOp) (y : Expr) (r : List Expr) (p : Pos) (b : Expr) : Prop := (r = [] ∧ b = y) ∨ (r ≠ [] ∧ b = .BoolOp o (y :: r) p)
noncomputable def restOf (o : BoolOp) (p : Pos) : (l : List Expr) → Option {t : Expr × Expr // ∃ y r, l = t.1 :: y :: r ∧ Rest o y r p t.2}
  | [a, y] => some ⟨(a, y), y, [], rfl, .inl ⟨rfl, rfl⟩⟩
  | a :: y :: z :: r => some ⟨(a, .BoolOp o (y :: z :: r) p), y, z :: r, rfl, .inr ⟨List.cons_ne_nil _ _, rfl⟩⟩
  | _ => none
noncomputable def asName_ (x : Expr) : Option {n : Str × Pos // x = .Name n.1 n.2} := if h_ : x.ctorIdx = 23 then @Expr.Name.elim (fun x => Option {n : Str × Pos // x = .Name n.1 n.2}) x h_ fun n p => some ⟨(n, p), rfl⟩ else none
noncomputable def asCall (x : Expr) : Option {t : Expr × List Expr × List Keyword × Pos // x = .Call t.1 t.2.1 t.2.2.1 t.2.2.2} := if h_ : x.ctorIdx = 16 then @Expr.Call.elim (fun x => Option {t : Expr × List Expr × List Keyword × Pos // x = .Call t.1 t.2.1 t.2.2.1 t.2.2.2}) x h_ fun f as kw p => some ⟨(f, as, kw, p), rfl⟩ else none
noncomputable def isNil {α : Type} : (l : List α) → Option {u : Unit // l = []}
  | [] => some ⟨(), rfl⟩
  | _ => none
theorem call_eq {f g : Expr} {as : List Expr} {kw kw' : List Keyword} {p : Pos} (h1 : f = g) (h2 : kw = kw') : Expr.Call f as kw p = .Call g as kw' p := by rw [h1, h2]
theorem sub_eq {o i i' : Expr} {p : Pos} (h : i = i') : Expr.Subscript o i p = .Subscript o i' p := by rw [h]
theorem dict_eq {a a' : List (Option Expr)} {b b' : List Expr} {p : Pos} (h : a = a') (h' : b = b') : Expr.Dict a b p = .Dict a' b' p := by rw [h, h']
theorem const_eq {c c' : Const} {k p} (h : c = c') : Expr.Constant c k p = .Constant c' k p := by rw [h]
theorem un_eq {o o' : UnaryOp} {y p} (h : o = o') : Expr.UnaryOp o y p = .UnaryOp o' y p := by rw [h]
theorem bin_eq {o o' : Operator} {x y p} (h : o = o') : Expr.BinOp x o y p = .BinOp x o' y p := by rw [h]
theorem lc_eq {e : Expr} {l : List Comprehension} {g g' : Comprehension} {sc p} (h : l = [g]) (h' : g = g') : Expr.ListComp e l sc p = .ListComp e [g'] sc p := by rw [h, h']
theorem gen_eq {t it : Expr} {cs cs' : List Expr} {k k' : Int} (h : cs = cs') (h' : k = k') : (⟨t, it, cs, k⟩ : Comprehension) = ⟨t, it, cs', k'⟩ := by rw [h, h']
noncomputable def asCallN : (x : Expr) → Option {t : Str × List Expr // ∃ p q, x = .Call (.Name t.1 p) t.2 [] q} := fun x =>
  (asCall x).bind fun t => (asName_ t.1.1).bind fun n => (isNil t.1.2.2.1).map fun k => ⟨(n.1.1, t.1.2.1), n.1.2, t.1.2.2.2, t.2.trans (call_eq n.2 k.2)⟩
noncomputable def asAttr_ (x : Expr) : Option {t : Expr × Str × Pos // x = .Attribute t.1 t.2.1 t.2.2} := if h_ : x.ctorIdx = 20 then @Expr.Attribute.elim (fun x => Option {t : Expr × Str × Pos // x = .Attribute t.1 t.2.1 t.2.2}) x h_ fun o n p => some ⟨(o, n, p), rfl⟩ else none
noncomputable def sure (b : Bool) : Option {u : Unit // b = true} := match b with
  | true => some ⟨(), rfl⟩
  | false => none
inductive IsCallM (x : Expr) (t : Expr × Str × List Expr) : Prop | mk (ap p : Pos) (e : x = .Call (.Attribute t.1 t.2.1 ap) t.2.2 [] p) (hb : isBase t.1 = true) (hp : (ap.endLine == p.line) = true) (hs : t.2.2.all notStar = true) (hl : t.2.2.length < 30)
noncomputable def asCallM : (x : Expr) → Option {t : Expr × Str × List Expr // IsCallM x t} := fun x =>
  (asCall x).bind fun t => (asAttr_ t.1.1).bind fun n => (isNil t.1.2.2.1).bind fun k => (sure (isBase n.1.1 && (n.1.2.2.endLine == t.1.2.2.2.line && (t.1.2.1.all notStar && decide (t.1.2.1.length < 30))))).map fun s =>
    ⟨(n.1.1, n.1.2.1, t.1.2.1), n.1.2.2, t.1.2.2.2, t.2.trans (call_eq n.2 k.2), (and_ok s.2).1, (and_ok (and_ok s.2).2).1, (and_ok (and_ok (and_ok s.2).2).2).1, dec_ok (and_ok (and_ok (and_ok s.2).2).2).2⟩
noncomputable def asAttr : (x : Expr) → Option {t : Expr × Str // ∃ p, x = .Attribute t.1 t.2 p ∧ isBase t.1 = true} := fun x =>
  (asAttr_ x).bind fun t => (sure (isBase t.1.1)).map fun s => ⟨(t.1.1, t.1.2.1), t.1.2.2, t.2, s.2⟩
noncomputable def asSub_ (x : Expr) : Option {t : Expr × Expr // ∃ p, x = .Subscript t.1 t.2 p} := if h_ : x.ctorIdx = 21 then @Expr.Subscript.elim (fun x => Option {t : Expr × Expr // ∃ p, x = .Subscript t.1 t.2 p}) x h_ fun o i p => some ⟨(o, i), p, rfl⟩ else none
noncomputable def asSub : (x : Expr) → Option {t : Expr × Expr // ∃ p, x = .Subscript t.1 t.2 p ∧ notSlice t.2 = true} := fun x =>
  (asSub_ x).bind fun t => (sure (notSlice t.1.2)).map fun s => ⟨t.1, t.2.elim fun p h => ⟨p, h, s.2⟩⟩
noncomputable def asSl_ (x : Expr) : Option {t : Option Expr × Option Expr × Option Expr // ∃ p, x = .Slice t.1 t.2.1 t.2.2 p} := if h_ : x.ctorIdx = 26 then @Expr.Slice.elim (fun x => Option {t : Option Expr × Option Expr × Option Expr // ∃ p, x = .Slice t.1 t.2.1 t.2.2 p}) x h_ fun l u s p => some ⟨(l, u, s), p, rfl⟩ else none
noncomputable def asSlice : (x : Expr) → Option {t : Expr × Option Expr × Option Expr × Option Expr // ∃ p q, x = .Subscript t.1 (.Slice t.2.1 t.2.2.1 t.2.2.2 p) q} := fun x =>
  (asSub_ x).bind fun t => (asSl_ t.1.2).map fun s => ⟨(t.1.1, s.1), s.2.elim fun p h => t.2.elim fun q h' => ⟨p, q, h'.trans (sub_eq h)⟩⟩
noncomputable def lost {α : Type} : (o : Option α) → Option {u : Unit // o = none}
  | none => some ⟨(), rfl⟩
  | some _ => none
noncomputable def asTup' (x : Expr) : Option {t : List Expr // ∃ k p, x = .Tuple t k p} := if h_ : x.ctorIdx = 25 then @Expr.Tuple.elim (fun x => Option {t : List Expr // ∃ k p, x = .Tuple t k p}) x h_ fun es k p => some ⟨es, k, p, rfl⟩ else none
noncomputable def asList (x : Expr) : Option {t : List Expr // ∃ p, x = .List t p} := if h_ : x.ctorIdx = 24 then @Expr.List.elim (fun x => Option {t : List Expr // ∃ p, x = .List t p}) x h_ fun es p => some ⟨es, p, rfl⟩ else none
noncomputable def asConst (x : Expr) : Option {c : Const // ∃ k p, x = .Constant c k p} := if h_ : x.ctorIdx = 19 then @Expr.Constant.elim (fun x => Option {c : Const // ∃ k p, x = .Constant c k p}) x h_ fun c k p => some ⟨c, k, p, rfl⟩ else none
noncomputable def asDicts (x : Expr) : Option {t : List (Option Expr) × List Expr // ∃ p, x = .Dict t.1 t.2 p} := if h_ : x.ctorIdx = 6 then @Expr.Dict.elim (fun x => Option {t : List (Option Expr) × List Expr // ∃ p, x = .Dict t.1 t.2 p}) x h_ fun ks vs p => some ⟨(ks, vs), p, rfl⟩ else none
noncomputable def asDict : (x : Expr) → Option {u : Unit // ∃ p, x = .Dict [] [] p} := fun x =>
  (asDicts x).bind fun t => (isNil t.1.1).bind fun a => (isNil t.1.2).map fun b => ⟨(), t.2.elim fun p h => ⟨p, h.trans (dict_eq a.2 b.2)⟩⟩
noncomputable def intC : (c : Const) → Option {i : Int // c = .int i}
  | .int i => some ⟨i, rfl⟩
  | _ => none
noncomputable def isPow : (o : Operator) → Option {u : Unit // o = .Pow}
  | .Pow => some ⟨(), rfl⟩
  | _ => none
noncomputable def IsI (x : Expr) (i : Int) : Prop := ∃ k p, x = .Constant (.int i) k p
noncomputable def asI (x : Expr) : Option {i : Int // IsI x i} := (asConst x).bind fun c => (intC c.1).map fun i => ⟨i.1, c.2.elim fun k h => h.elim fun p h => ⟨k, p, h.trans (const_eq i.2)⟩⟩
noncomputable def IsInt (x : Expr) (i : Int) : Prop := IsI x i ∨ (∃ j y p, x = .UnaryOp .USub y p ∧ IsI y j ∧ i = -j) ∨ ∃ a b y z p, x = .BinOp y .Pow z p ∧ IsI y a ∧ IsI z b ∧ (0 ≤ b ∧ b ≤ 1000000 ∧ a.natAbs < 2 ^ 64) ∧ i = a ^ b.toNat
noncomputable def asInt (x : Expr) : Option {i : Int // IsInt x i} := match asI x with
  | some i => some ⟨i.1, .inl i.2⟩
  | none => match (asUn x).bind fun t => (isNeg t.1.1).bind fun o => (asI t.1.2).map fun i => (⟨-i.1, .inr (.inl (t.2.elim fun p h => ⟨i.1, _, p, h.trans (un_eq o.2), i.2, rfl⟩))⟩ : {i : Int // IsInt x i}) with
    | some i => some i
    | none => (asBin x).bind fun t => (isPow t.1.2.1).bind fun o => (asI t.1.1).bind fun a => (asI t.1.2.2).bind fun b => (sure (decide (0 ≤ b.1 ∧ b.1 ≤ 1000000 ∧ a.1.natAbs < 2 ^ 64))).map fun s =>
        ⟨a.1 ^ b.1.toNat, .inr (.inr (t.2.elim fun p h => ⟨a.1, b.1, _, _, p, h.trans (bin_eq o.2), a.2, b.2, dec_ok s.2, rfl⟩))⟩
noncomputable def asName (x : Expr) : Option Str := (asName' x).map (·.1)
noncomputable def asTup (x : Expr) : Option (List Expr) := (asTup' x).map (·.1)
theorem asName_eq {x : Expr} {n} (h : asName x = some n) : ∃ p, x = .Name n p := map_val (P := fun n => ∃ p, x = .Name n p) h
theorem asTup_eq {x : Expr} {es} (h : asTup x = some es) : ∃ k p, x = .Tuple es k p := map_val (P := fun es => ∃ k p, x = .Tuple es k p) h
noncomputable def namesOf : List Expr → Option (List Str)
  | [] => some []
  | t :: ts => (asName t).bind fun n => (namesOf ts).map (n :: ·)
noncomputable def notSet (x : Expr) : Bool := !(x.ctorIdx == 7)
noncomputable def IsTg (t : Expr) (ns : List Str) : Prop := (∃ n q, t = .Name n q ∧ ns = [n]) ∨ ∃ ts k q, t = .Tuple ts k q ∧ namesOf ts = some ns ∧ ns.length ≠ 1
noncomputable def asTg (t : Expr) : Option {ns : List Str // IsTg t ns} := match asName' t with
  | some n => some ⟨[n.1], .inl (n.2.elim fun p h => ⟨n.1, p, h, rfl⟩)⟩
  | none => (asTup' t).bind fun ts => (got (namesOf ts.1)).bind fun ns => (sure (ns.1.length != 1)).map fun s => ⟨ns.1, .inr (ts.2.elim fun k h => h.elim fun q h => ⟨ts.1, k, q, h, ns.2, bne_iff_ne.mp s.2⟩)⟩
noncomputable def Cmp := Expr × List Str × Expr × Option Expr × Scope
noncomputable def IsComp (x : Expr) (c : Expr × List Str × Expr × Option Expr × Scope) : Prop := ∃ t p, x = .ListComp c.1 [⟨t, c.2.2.1, c.2.2.2.1.toList, 0⟩] c.2.2.2.2 p ∧ IsTg t c.2.1
noncomputable def asLC (x : Expr) : Option {t : Expr × List Comprehension × Scope // ∃ p, x = .ListComp t.1 t.2.1 t.2.2 p} := if h_ : x.ctorIdx = 8 then @Expr.ListComp.elim (fun x => Option {t : Expr × List Comprehension × Scope // ∃ p, x = .ListComp t.1 t.2.1 t.2.2 p}) x h_ fun e g sc p => some ⟨(e, g, sc), p, rfl⟩ else none
noncomputable def atMost : (l : List Expr) → Option {c : Option Expr // l = c.toList}
  | [] => some ⟨none, rfl⟩
  | [c] => some ⟨some c, rfl⟩
  | _ => none
noncomputable def asGen (g : Comprehension) : Option {t : Expr × Expr × Option Expr // g = ⟨t.1, t.2.1, t.2.2.toList, 0⟩} := match g with
  | ⟨t, it, cs, k⟩ => (atMost cs).bind fun c => (sure (decide (k = 0))).map fun s => ⟨(t, it, c.1), gen_eq c.2 (of_decide_eq_true s.2)⟩
noncomputable def asComp (x : Expr) : Option {c : Expr × List Str × Expr × Option Expr × Scope // IsComp x c} :=
  (asLC x).bind fun l => (one l.1.2.1).bind fun g => (asGen g.1).bind fun t => (asTg t.1.1).map fun ns =>
    ⟨(l.1.1, ns.1, t.1.2.1, t.1.2.2, l.1.2.2), l.2.elim fun p h => ⟨t.1.1, p, h.trans (lc_eq g.2 t.2), ns.2⟩⟩
noncomputable def Op2.bin : Op2 → Option Operator
  | .add => some .Add | .sub => some .Sub | .mul => some .Mult | .fdiv => some .FloorDiv | .mod => some .Mod | _ => none
noncomputable def Op2.cmp : Op2 → Option CmpOp
  | .lt => some .Lt | .le => some .LtE | .gt => some .Gt | .ge => some .GtE | .eq => some .Eq | .ne => some .NotEq | .in_ => some .In | .nin => some .NotIn | _ => none
noncomputable def Op1.bi : Op1 → Option Bi
  | .len => some .len | .abs => some .abs | .sum => some .sum | .sorted => some .sorted | .range => some .range | _ => none
noncomputable def Op2.bi : Op2 → Option Bi
  | .min => some .min | .max => some .max | _ => none
section
variable (look : Str → Option NameKind) (N : List Str)
noncomputable def isGl (s : String) (n : Str) : Bool := Str.ofString s == n && look n == some .globalImplicit && !(n == ("__debug__" : Str))
noncomputable def isVar (i : Nat) (n : Str) : Bool := N[i]? == some n && (look n == some .local || look n == some .cell) && !(n == ("__debug__" : Str))
noncomputable def scLook (sc : Scope) : Str → Option NameKind := fun n => sc.names.lookup n
noncomputable def compScope (look : Str → Option NameKind) (sc : Scope) (ns : List Str) : Bool :=
  sc.names.all (fun x => x.2 != .free || look x.1 == some .cell) && sc.kind == .function && ns.all (fun n => sc.names.lookup n == some .local && !(n == ("__debug__" : Str))) && apartS ns && sc.names.all (fun x => x.2 != .cell && (x.2 != .local || sc.names.lookup x.1 == some .local))
end
noncomputable def IsLit (e : E) : Prop := ∃ k, e = .int k
noncomputable def isLit : (e : E) → Option {u : Unit // IsLit e}
  | .int k => some ⟨(), k, rfl⟩
  | _ => none
noncomputable def isTr : (e : Bool) → Option {u : Unit // e = true}
  | true => some ⟨(), rfl⟩
  | _ => none
noncomputable def asB : (e : E) → Option {b : Bool // e = .bool b}
  | .bool b => some ⟨b, rfl⟩
  | _ => none
noncomputable def isTrueE (e : E) : Bool := chk (asB e) fun b => b
theorem isTrueE_eq {e : E} (h : isTrueE e = true) : e = .bool true := by
  obtain ⟨b, hb, h⟩ := chk_ok h
  have h : b = true := h
  simp only [hb, h]
noncomputable def call1 (look : Str → Option NameKind) (nm : String) (f : Expr → Bool) (x : Expr) : Bool := chk (asCallN x) fun t => isGl look nm t.1 && chk (one t.2) fun y => notStar y && f y
noncomputable def call2 (look : Str → Option NameKind) (nm : String) (f g : Expr → Bool) (x : Expr) : Bool := chk (asCallN x) fun t => isGl look nm t.1 && chk (two t.2) fun y => notStar y.1 && (notStar y.2 && (f y.1 && g y.2))
noncomputable def call3 (look : Str → Option NameKind) (nm : String) (f g h : Expr → Bool) (x : Expr) : Bool := chk (asCallN x) fun t => isGl look nm t.1 && chk (three t.2) fun y => notStar y.1 && (notStar y.2.1 && (notStar y.2.2 && (f y.1 && (g y.2.1 && h y.2.2))))
noncomputable def cmp1 (o : CmpOp) (f g : Expr → Bool) (x : Expr) : Bool := chk (asCmps x) fun t => chk (one t.2.1) fun p => chk (one t.2.2) fun r => (!behindInMarks p r) && (p == o && (f t.1 && g r))
noncomputable def bin1 (o : Operator) (f g : Expr → Bool) (x : Expr) : Bool := chk (asBin x) fun t => t.2.1 == o && (f t.1 && g t.2.2)
noncomputable def bool1 (o : BoolOp → Bool) (f g : Expr → Bool) (x : Expr) : Bool := chk (asBools x) fun t => o t.1 && chk (restOf t.1 t.2.2 t.2.1) fun r => f r.1 && g r.2
noncomputable def meth1 (nm : String) (f g : Expr → Bool) (x : Expr) : Bool := chk (asCallM x) fun t => Str.ofString nm == t.2.1 && (f t.1 && chk (one t.2.2) fun y => g y)
noncomputable def isC (c : Const) (x : Expr) : Bool := chk (asConst x) fun k => k == c
inductive Call1 (look : Str → Option NameKind) (nm : String) (f : Expr → Bool) (x : Expr) : Prop | mk (n : Str) (y : Expr) (p q : Pos) (e : x = .Call (.Name n p) [y] [] q) (h1 : isGl look nm n = true) (h2 : notStar y = true) (h3 : f y = true)
theorem call1_eq {look : Str → Option NameKind} {nm : String} {f : Expr → Bool} {x : Expr} (h : call1 look nm f x = true) : Call1 look nm f x := by
  refine @bc _ fun k_ => ?_
  obtain ⟨t, ⟨p, q, e⟩, h⟩ := chk_ok h
  obtain ⟨h1, h⟩ := and_ok h
  obtain ⟨y, hy, h⟩ := chk_ok h
  obtain ⟨h2, h3⟩ := and_ok h
  apply k_; clear k_
  exact ⟨t.1, y, p, q, e.trans (by rw [hy]), h1, h2, h3⟩
inductive Call2 (look : Str → Option NameKind) (nm : String) (f g : Expr → Bool) (x : Expr) : Prop | mk (n : Str) (y z : Expr) (p q : Pos) (e : x = .Call (.Name n p) [y, z] [] q) (h1 : isGl look nm n = true) (h2 : notStar y = true) (h3 : notStar z = true) (h4 : f y = true) (h5 : g z = true)
theorem call2_eq {look : Str → Option NameKind} {nm : String} {f g : Expr → Bool} {x : Expr} (h : call2 look nm f g x = true) : Call2 look nm f g x := by
  refine @bc _ fun k_ => ?_
  obtain ⟨t, ⟨p, q, e⟩, h⟩ := chk_ok h
  obtain ⟨h1, h⟩ := and_ok h
  obtain ⟨y, hy, h⟩ := chk_ok h
  obtain ⟨h2, h⟩ := and_ok h
  obtain ⟨h3, h⟩ := and_ok h
  obtain ⟨h4, h5⟩ := and_ok h
  apply k_; clear k_
  exact ⟨t.1, y.1, y.2, p, q, e.trans (by rw [hy]), h1, h2, h3, h4, h5⟩
theorem call3_eq {look : Str → Option NameKind} {nm : String} {f g k : Expr → Bool} {x : Expr} (h : call3 look nm f g k x = true) : ∃ n y z u p q, x = .Call (.Name n p) [y, z, u] [] q ∧ isGl look nm n = true ∧ (notStar y = true ∧ notStar z = true ∧ notStar u = true) ∧ f y = true ∧ g z = true ∧ k u = true := by
  refine @bc _ fun k_ => ?_
  obtain ⟨t, ⟨p, q, e⟩, h⟩ := chk_ok h
  obtain ⟨h1, h⟩ := and_ok h
  obtain ⟨y, hy, h⟩ := chk_ok h
  obtain ⟨h2, h⟩ := and_ok h
  obtain ⟨h3, h⟩ := and_ok h
  obtain ⟨h4, h⟩ := and_ok h
  obtain ⟨h5, h⟩ := and_ok h
  apply k_; clear k_
  exact ⟨t.1, y.1, y.2.1, y.2.2, p, q, e.trans (by rw [hy]), h1, ⟨h2, h3, h4⟩, h5, and_ok h⟩
inductive Cmp1 (o : CmpOp) (f g : Expr → Bool) (x : Expr) : Prop | mk (l r : Expr) (p : Pos) (e : x = .Compare l [o] [r] p) (h : behindInMarks o r = false) (h1 : f l = true) (h2 : g r = true)
theorem cmp1_eq {o : CmpOp} {f g : Expr → Bool} {x : Expr} (h : cmp1 o f g x = true) : Cmp1 o f g x := by
  refine @bc _ fun k_ => ?_
  obtain ⟨t, ⟨p, e⟩, h⟩ := chk_ok h
  obtain ⟨op, h1, h⟩ := chk_ok h
  obtain ⟨r, h2, h⟩ := chk_ok h
  obtain ⟨h3, h⟩ := and_ok h
  obtain ⟨h4, h⟩ := and_ok h
  apply k_; clear k_
  have h4 : op = o := eq_of_beq h4
  have h3 : behindInMarks op r = false := not_ok h3
  have h : f t.1 = true ∧ g r = true := and_ok h
  exact ⟨t.1, r, p, e.trans (by rw [h1, h2, h4]), by rw [← h4]; exact h3, h.1, h.2⟩
inductive Bin1 (o : Operator) (f g : Expr → Bool) (x : Expr) : Prop | mk (l r : Expr) (p : Pos) (e : x = .BinOp l o r p) (h1 : f l = true) (h2 : g r = true)
theorem bin1_eq {o : Operator} {f g : Expr → Bool} {x : Expr} (h : bin1 o f g x = true) : Bin1 o f g x := by
  refine @bc _ fun k_ => ?_
  obtain ⟨t, ⟨p, e⟩, h⟩ := chk_ok h
  obtain ⟨h4, h⟩ := and_ok h
  apply k_; clear k_
  exact ⟨t.1, t.2.2, p, e.trans (by rw [eq_of_beq h4]), (and_ok h).1, (and_ok h).2⟩
inductive Bool1 (c : BoolOp → Bool) (f g : Expr → Bool) (x : Expr) : Prop | mk (o : BoolOp) (a b y : Expr) (r : List Expr) (p : Pos) (h : c o = true) (e : x = .BoolOp o (a :: y :: r) p) (hr : Rest o y r p b) (h1 : f a = true) (h2 : g b = true)
theorem bool1_eq {c : BoolOp → Bool} {f g : Expr → Bool} {x : Expr} (h : bool1 c f g x = true) : Bool1 c f g x := by
  refine @bc _ fun k_ => ?_
  obtain ⟨t, e, h⟩ := chk_ok h
  obtain ⟨h1, h⟩ := and_ok h
  obtain ⟨u, ⟨y, r, h2, h3⟩, h⟩ := chk_ok h
  apply k_; clear k_
  exact ⟨t.1, u.1, u.2, y, r, t.2.2, h1, e.trans (by rw [h2]), h3, (and_ok h).1, (and_ok h).2⟩
inductive Meth1 (nm : String) (f g : Expr → Bool) (x : Expr) : Prop | mk (y z : Expr) (e : IsCallM x (y, Str.ofString nm, [z])) (h1 : f y = true) (h2 : g z = true)
theorem meth1_eq {nm : String} {f g : Expr → Bool} {x : Expr} (h : meth1 nm f g x = true) : Meth1 nm f g x := by
  refine @bc _ fun k_ => ?_
  obtain ⟨⟨y, n, as⟩, e, h⟩ := chk_ok h
  obtain ⟨h1, h⟩ := and_ok h
  obtain ⟨h2, h⟩ := and_ok h
  obtain ⟨z, hz, h⟩ := chk_ok h
  apply k_; clear k_
  have h1 : Str.ofString nm = n := eq_of_beq h1
  have hz : as = [z] := hz
  have h : g z = true := h
  have h2 : f y = true := h2
  exact ⟨y, z, by rw [h1, ← hz]; exact e, h2, h⟩
theorem isC_eq {c : Const} {x : Expr} (h : isC c x = true) : ∃ k p, x = .Constant c k p := by
  refine @bc _ fun k_ => ?_
  obtain ⟨t, ⟨k, p, e⟩, h⟩ := chk_ok h
  apply k_; clear k_
  have h : (t == c) = true := h
  exact ⟨k, p, e.trans (by rw [eq_of_beq h])⟩
mutual
noncomputable def isE (look : Str → Option NameKind) (N : List Str) : E → Expr → Bool
  | .bad, _ => true
  | .v i, x => chk (asName' x) fun n => isVar look N i n
  | .none, x => isC .none x
  | .bool b, x => isC (.bool b) x
  | .int i, x => chk (asInt x) fun j => j == i
  | .word w, x => isC (.str w.str) x
  | .glob g, x => chk (asName' x) fun n => isGl look g.name n
  | .edict, x => (asDict x).isSome
  | .op1 o a, x => match o with
    | .neg => chk (asUn x) fun t => (isNeg t.1).isSome && isE look N a t.2
    | .not_ => chk (asUn x) fun t => (isNot t.1).isSome && isE look N a t.2
    | .isNone => cmp1 .Is (fun y => isE look N a y) (isC .none) x
    | .notNone => cmp1 .IsNot (fun y => isE look N a y) (isC .none) x
    | .fld c i => chk (asAttr x) fun t => (c.fields[i]?).any (fun m => Str.ofString m == t.2) && isE look N a t.1
    | o => (o.bi).any fun b => call1 look b.name (fun y => isE look N a y) x
  | .op2 o a b, x => match o with
    | .idx => chk (asSub x) fun t => isE look N a t.1 && isE look N b t.2
    | .index => (isLit b).isSome && meth1 "index" (fun y => isE look N a y) (fun y => isE look N b y) x
    | o => match o.bin with
      | some p => bin1 p (fun y => isE look N a y) (fun y => isE look N b y) x
      | none => match o.cmp with
        | some p => cmp1 p (fun y => isE look N a y) (fun y => isE look N b y) x
        | none => (o.bi).any fun bi => call2 look bi.name (fun y => isE look N a y) (fun y => isE look N b y) x
  | .op3 o a b c, x => match o with
    | .get => chk (asCallM x) fun t => Str.ofString "get" == t.2.1 && (isE look N a t.1 && chk (two t.2.2) fun y => isE look N b y.1 && isE look N c y.2)
    | .range => call3 look "range" (fun y => isE look N a y) (fun y => isE look N b y) (fun y => isE look N c y) x
  | .ite t a b, x => chk (asIf x) fun y => isE look N t y.1 && (isE look N a y.2.1 && isE look N b y.2.2)
  | .and_ a b, x => bool1 (fun o => (isAnd o).isSome) (fun y => isE look N a y) (fun y => isE look N b y) x
  | .or_ a b, x => bool1 (fun o => (isOr o).isSome) (fun y => isE look N a y) (fun y => isE look N b y) x
  | .chain a b c, x => chk (asCmps x) fun t => (t.2.1 == [.LtE, .LtE]) && chk (two t.2.2) fun y => (!lastMarks [.LtE, .LtE] [y.1, y.2]) && (isE look N a t.1 && (isE look N b y.1 && isE look N c y.2))
  | .call f args, x => chk (asCallN x) fun t => (f.cls == .none) && (isGl look f.name t.1 && isEs look N args t.2)
  | .meth f o args, x => chk (asCallM x) fun t => Str.ofString f.name == t.2.1 && (isE look N o t.1 && isEs look N args t.2.2)
  | .new c _ args, x => chk (asCallN x) fun t => isGl look c.name t.1 && isEs look N args t.2
  | .newF c args, x => chk (asCallN x) fun t => isGl look c.name t.1 && isEs look N args t.2
  | .tup args, x => chk (asTup' x) fun as => isEs look N args as
  | .frz l, x => isL look N l x
  | .thw _ l, x => isL look N l x
  | .thwD _, x => (asDict x).isSome
noncomputable def isEs (look : Str → Option NameKind) (N : List Str) : EL → List Expr → Bool
  | .nil, xs => (isNil xs).isSome
  | .cons e es, xs => match xs with
    | [] => false
    | x :: xs => notStar x && (isE look N e x && isEs look N es xs)
noncomputable def isL (look : Str → Option NameKind) (N : List Str) : L → Expr → Bool
  | .disp args, x => chk (asList x) fun as => isEs look N args as
  | .cat a b, x => bin1 .Add (fun y => isE look N a y) (fun y => isE look N b y) x
  | .rep a b, x => bin1 .Mult (fun y => isE look N a y) (fun y => isE look N b y) x
  | .slc a l u, x => chk (asSlice x) fun t => chk (got t.2.1) fun z => chk (got t.2.2.1) fun v => (lost t.2.2.2).isSome && (isE look N a t.1 && (isE look N l z && isE look N u v))
  | .frm a l, x => chk (asSlice x) fun t => chk (got t.2.1) fun z => (lost t.2.2.1).isSome && ((lost t.2.2.2).isSome && (isE look N a t.1 && isE look N l z))
  | .upt a u, x => chk (asSlice x) fun t => chk (got t.2.2.1) fun v => (lost t.2.1).isSome && ((lost t.2.2.2).isSome && (isE look N a t.1 && isE look N u v))
  | .rev a, x => chk (asSlice x) fun t => chk (got t.2.2.2) fun s => (lost t.2.1).isSome && ((lost t.2.2.1).isSome && (chk (asInt s) (fun i => i == -1) && isE look N a t.1))
  | .copy a, x => call1 look "list" (fun y => isE look N a y) x
  | .comp elt cond n src, x => chk (asComp x) fun t => compScope look t.2.2.2.2 t.2.1 && (decide (t.2.1.length = n) && (isE look N src t.2.2.1 && (notSet t.2.2.1 &&
        (isE (scLook t.2.2.2.2) t.2.1 elt t.1 && (match t.2.2.2.1 with | some y => isE (scLook t.2.2.2.2) t.2.1 cond y | none => isTrueE cond)))))
end
theorem some_ok {α : Type} {P : Prop} {o : Option {a : α // P}} (h : o.isSome = true) : P := by
  cases o with
  | none => cases h
  | some a => exact a.2
end Mine
set_option backward.match.sparseCases false
namespace Mine
open PySem PySem.W PyProof.Rows PySem.SeqAt PySem.Calls
theorem starEach_cons {e : Expr} {rest : List Expr} {env : Env} (h : notStar e = true) : starEach (e :: rest) env = (false, eval e env) :: starEach rest env := by
  cases e <;> first | rfl | cases h
theorem plain_star {env : Env} {pos : Pos} : ∀ {as : List Expr}, as.all notStar = true → (backTo pos (starEach as env)).any (·.1) = false
  | [], _ => rfl
  | e :: rest, h => by
    rw [List.all_cons, Bool.and_eq_true] at h
    rw [starEach_cons h.1]
    show (false || (backTo pos (starEach rest env)).any (·.1)) = false
    rw [plain_star h.2]; rfl
section
variable {M : Model} {A : Around} {E : Value → Shared → Prop} {s : Shared} {env : Env}
theorem cw_of {f : Value} {first : List Value} {pos : Pos} {as : List Expr} {Q : Value → Shared → Prop} (P : Heap → Prop) (hs : as.all notStar = true)
    (hk : ∀ h, P h → ∃ k, (k = Keeper.frame ∨ k = Keeper.machine ∨ k = Keeper.boundFrame) ∧ Looks M h (keeperOf f) k)
    (h : wpAny M A (spliced (backTo pos (starEach as env))) (fun vs s₁ => P s₁.heap ∧ wpAny M A (call f (first ++ vs)) Q E s₁) E s) :
    wpAny M A (callWith pos f first (backTo pos (starEach as env)) []) Q E s := by
  refine callWith_of (P := P) (by rw [plain_star hs]; rfl) hk ?_
  cases as with
  | nil =>
    refine wpAny_bind (wpAny_mono h (fun vs s₁ h₁ => ?_) fun _ _ x => x)
    refine wpAny_bind (wpAny_pure ?_)
    refine wpAny_holding ?_
    exact wpAny_bind (wpAny_pure (wpAny_bind (wpAny_pure (wpAny_pure h₁))))
  | cons e rest =>
    rw [List.all_cons, Bool.and_eq_true] at hs
    rw [starEach_cons hs.1] at h ⊢
    exact evalArgs_plain h
end
section
variable {w : World} {base : Heap} {g₀ : Array GenState} {o₀ : OsState}
variable {A : Around} {E : Value → Shared → Prop} {s s' : Shared} {W W' : Wd} {H H' : St} {K : Frag}
variable (S : StOk cA prog w base g₀ o₀ s W H)
include S
theorem bi1 (R : Room A 0) {o : Op1} {b : Bi} {x z : V} {v : Value} (hb : o.bi = some b) (r : Rep cA s.heap W x v) (e : ev1 H o x = some z) : wpAny (model prog w) A (call b.val [v]) (Ok1 cA prog w base g₀ o₀ s W H z) E s := by
  cases o <;> cases hb
  · obtain ⟨xs, hx, rfl⟩ := map_is e
    exact call_lenV S r hx
  · obtain ⟨i, hx, rfl⟩ := map_is e
    rw [intV_eq hx] at r
    exact call_absV S r
  · obtain ⟨l, hx, e⟩ := bind_is e
    obtain ⟨xs, hy, e0_⟩ := map_is e
    subst e0_
    rw [lstV_eq hx] at r
    exact call_sumV S R.handled r hy
  · obtain ⟨hx, rfl⟩ := if_is (c := isEdict x = true) e
    have hx : x = .edict := by cases x <;> first | rfl | cases hx
    rw [hx] at r
    exact call_sortedV S R.handled r
  · refine @bc _ fun k_ => ?_
    obtain ⟨i, hx, e⟩ := bind_is e
    obtain ⟨hc, e0_⟩ := if_is e
    apply k_; clear k_
    subst e0_
    rw [intV_eq hx] at r
    exact call_range1 S r
theorem bin2 {o : Op2} {p : Operator} {x y z : V} {v u : Value} (hb : o.bin = some p) (rx : Rep cA s.heap W x v) (ry : Rep cA s.heap W y u) (e : ev2 H o x y = some z) : wpAny (model prog w) A (binaryOp p v u) (Ok1 cA prog w base g₀ o₀ s W H z) E s := by
  have key : ∀ {f : Int → Int → Option V}, ints2 x y f = some z → (∀ a b, Rep cA s.heap W (.int a) v → Rep cA s.heap W (.int b) u → f a b = some z → wpAny (model prog w) A (binaryOp p v u) (Ok1 cA prog w base g₀ o₀ s W H z) E s) → wpAny (model prog w) A (binaryOp p v u) (Ok1 cA prog w base g₀ o₀ s W H z) E s := fun h k => by
    refine @bc _ fun k_ => ?_
    obtain ⟨a, b, ha, hb, h⟩ := ints2_is h
    apply k_; clear k_
    exact k a b (ha ▸ rx) (hb ▸ ry) h
  cases o <;> cases hb
  · exact key e fun a b rx ry e => by cases e; exact bin_add S rx ry
  · exact key e fun a b rx ry e => by cases e; exact bin_sub S rx ry
  · exact key e fun a b rx ry e => by obtain ⟨h, rfl⟩ := if_is e; exact bin_mul S rx ry h
  · exact key e fun a b rx ry e => by obtain ⟨h, rfl⟩ := if_is e; exact bin_fdiv S rx ry h.1 h.2
  · exact key e fun a b rx ry e => by obtain ⟨h, rfl⟩ := if_is e; exact bin_mod S rx ry h
theorem cmp2 (R : Room A 0) {o : Op2} {p : CmpOp} {x y z : V} {v u : Value} (hb : o.cmp = some p) (rx : Rep cA s.heap W x v) (ry : Rep cA s.heap W y u) (e : ev2 H o x y = some z) : wpAny (model prog w) A (compareOp p v u) (Ok1 cA prog w base g₀ o₀ s W H z) E s := by
  have key : ∀ {f : Int → Int → Option V}, ints2 x y f = some z → (∀ a b, Rep cA s.heap W (.int a) v → Rep cA s.heap W (.int b) u → f a b = some z → wpAny (model prog w) A (compareOp p v u) (Ok1 cA prog w base g₀ o₀ s W H z) E s) → wpAny (model prog w) A (compareOp p v u) (Ok1 cA prog w base g₀ o₀ s W H z) E s := fun h k => by
    refine @bc _ fun k_ => ?_
    obtain ⟨a, b, ha, hb, h⟩ := ints2_is h
    apply k_; clear k_
    exact k a b (ha ▸ rx) (hb ▸ ry) h
  cases o <;> cases hb
  · exact key e fun a b rx ry e => by cases e; exact cmp_lt S rx ry
  · exact key e fun a b rx ry e => by cases e; exact cmp_le S rx ry
  · exact key e fun a b rx ry e => by cases e; exact cmp_gt S rx ry
  · exact key e fun a b rx ry e => by cases e; exact cmp_ge S rx ry
  · obtain ⟨b, hx, rfl⟩ := map_is e; exact cmp_eq S R rx ry hx
  · obtain ⟨b, hx, rfl⟩ := map_is e; exact cmp_ne S R rx ry hx
  · refine @bc _ fun k_ => ?_
    obtain ⟨k, hk, e⟩ := bind_is e
    obtain ⟨b, hx, e0_⟩ := map_is e
    apply k_; clear k_
    subst e0_
    rw [intV_eq hk] at rx
    exact cmp_in S rx ry hx
  · refine @bc _ fun k_ => ?_
    obtain ⟨k, hk, e⟩ := bind_is e
    obtain ⟨b, hx, e0_⟩ := map_is e
    apply k_; clear k_
    subst e0_
    rw [intV_eq hk] at rx
    exact cmp_nin S rx ry hx
theorem bi2 (R : Room A 0) {o : Op2} {b : Bi} {x y z : V} {v u : Value} (hb : o.bi = some b) (rx : Rep cA s.heap W x v) (ry : Rep cA s.heap W y u) (e : ev2 H o x y = some z) : wpAny (model prog w) A (call b.val [v, u]) (Ok1 cA prog w base g₀ o₀ s W H z) E s := by
  cases o <;> cases hb
  · refine @bc _ fun k_ => ?_
    obtain ⟨a, b, ha, hb, e⟩ := ints2_is e
    apply k_; clear k_
    rw [ha] at rx; rw [hb] at ry
    cases e; exact call_minV S R.handled rx ry
  · refine @bc _ fun k_ => ?_
    obtain ⟨a, b, ha, hb, e⟩ := ints2_is e
    apply k_; clear k_
    rw [ha] at rx; rw [hb] at ry
    cases e; exact call_maxV S R.handled rx ry
end
structure Site (A : Around) (n : Nat) (s : Shared) (W : Wd) : Prop where
  room : Room A n
  stk : ∃ l, A.frames = some l ∧ ∀ en ∈ l, en.scope.kind ≠ .module ∧ ∃ L o, en.frame = some L ∧ W L = some .mach ∧ s.heap.get? L = some o ∧ ∀ vs, o.data ≠ .fields vs
theorem Room.le {A : Around} {n m : Nat} (R : Room A n) (h : m ≤ n) : Room A m := ⟨R.handled, by have := R.units; (first | lia | omega), by have := R.depth; (first | lia | omega)⟩
theorem Site.ext {A : Around} {n : Nat} {P : Addr → Prop} {s s' : Shared} {W W' : Wd} (x : Site A n s W) (e : Ext P s W s' W') : Site A n s' W' := by
  refine @bc _ fun k_ => ?_
  obtain ⟨r, l, hl, h⟩ := x
  apply k_; clear k_
  refine ⟨r, l, hl, fun en hen => ?_⟩
  refine @bc _ fun k_ => ?_
  obtain ⟨a, L, o, b, c, d, f⟩ := h en hen
  obtain ⟨o', d', f'⟩ := e.nofld L o c d f
  apply k_; clear k_
  exact ⟨a, L, o', b, e.mach L c, d', f'⟩
noncomputable def Flies (C : Addr) (e : Value) (s : Shared) (W : Wd) : Prop := ∃ a oe vs, e = .ref a ∧ W a = some .exc ∧ s.heap.get? a = some oe ∧ oe.cls = .ref C ∧ oe.data = .fields vs ∧
  (vs[1]? = some .none ∨ ∃ T oT ts, vs[1]? = some (.ref T) ∧ T ≠ a ∧ W T = some .exc ∧ s.heap.get? T = some oT ∧ oT.data = .fields ts ∧ ts[3]? = some .none)
section
variable (cA : Cls → Addr) (fA : Fn → Addr) (xA : Addr) (prog : Program) (w : World) (base : Heap) (g₀ : Array GenState) (o₀ : OsState)
noncomputable def CallSnd (n : Nat) : Prop := ∀ (f : Fn) (vs : List V) (H : St) (Q : V → St → Prop) (X : St → Prop) (s : Shared) (W : Wd) (A : Around) (args : List Value) (R : Result → Shared → Prop),
  callAt defs n f vs H Q X → StOk cA prog w base g₀ o₀ s W H → Reps cA s.heap W vs args → Site A (2 * n) s W →
  (∀ y H' v s' W', Ext NP s W s' W' → StOk cA prog w base g₀ o₀ s' W' H' → Rep cA s'.heap W' y v → Q y H' → R (.ok (.ret v)) s') →
  (∀ e s' W' H', Ext NP s W s' W' → StOk cA prog w base g₀ o₀ s' W' H' → Flies xA e s' W' → X H' → R (.error e) s') →
  codeAny (model prog w) A (.call (.ref (fA f)) ⟨args, []⟩) R s
end
end Mine
set_option backward.match.sparseCases false
namespace Mine
open PySem PySem.W PyProof.Rows PySem.SeqAt PySem.Calls
inductive BoolIs (v : V) (Q : Bool → Prop) : Prop | mk (b : Bool) (e : v = .bool b) (h : Q b)
theorem boolB {v : V} {Q : Bool → Prop} (h : boolP v Q) : BoolIs v Q := by
  cases v with
  | bool b => exact ⟨b, rfl, h⟩
  | _ => exact h.elim
theorem boolP_iff {v : V} {Q : Bool → Prop} : boolP v Q ↔ ∃ b, v = .bool b ∧ Q b := by
  cases v <;> simp [boolP]
inductive GlIs (look : Str → Option NameKind) (s : String) (n : Str) : Prop | mk (e : n = Str.ofString s) (h : look (Str.ofString s) = some .globalImplicit) (hd : (Str.ofString s == ("__debug__" : Str)) = false)
theorem isGl_eq {look : Str → Option NameKind} {s : String} {n : Str} (h : isGl look s n = true) : GlIs look s n := by
  obtain ⟨h, h2⟩ := and_ok h
  obtain ⟨h0, h1⟩ := and_ok h
  have h0 : Str.ofString s = n := eq_of_beq h0
  rw [← h0] at h1 h2
  exact ⟨h0.symm, eq_of_beq h1, not_ok h2⟩
theorem isEs_star {look : Str → Option NameKind} {N : List Str} : ∀ {es : EL} {xs : List Expr}, isEs look N es xs = true → xs.all notStar = true
  | .nil, xs, h => by rw [(some_ok h : xs = [])]; rfl
  | .cons e es, [], h => by cases h
  | .cons e es, x :: xs, h => by
    obtain ⟨h1, h⟩ := and_ok h
    rw [List.all_cons, h1, isEs_star (and_ok h).2]; rfl
noncomputable def plainT : Expr → Bool
  | .UnaryOp .Not _ _ => false
  | .BoolOp .. => false
  | .IfExp .. => false
  | .Compare .. => false
  | _ => true
theorem isTrue_shape {x : Expr} {env : Env} {whole : Sem Value} (h : plainT x = true) : isTrue x env whole = (do let v ← whole; standAt x.pos; holding [v] (truthy v)) := by
  cases x <;> first | rfl | cases h | skip
  rename_i o _ _
  cases o <;> first | rfl | cases h
section
variable {M : Model} {A : Around} {E : Value → Shared → Prop} {s : Shared} {env : Env}
theorem bool_rest {o : BoolOp} {y b : Expr} {r : List Expr} {p : Pos} (h : (r = [] ∧ b = y) ∨ (r ≠ [] ∧ b = .BoolOp o (y :: r) p)) : eval (.BoolOp o (y :: r) p) env = eval b env := by
  rcases h with ⟨rfl, rfl⟩ | ⟨_, rfl⟩ <;> rfl
theorem true_rest {o : BoolOp} {y b : Expr} {r : List Expr} {p : Pos} {whole : Sem Value} {Q : Bool → Shared → Prop} (h : (r = [] ∧ b = y) ∨ (r ≠ [] ∧ b = .BoolOp o (y :: r) p)) (q : wpAny M A (isTrue b env (eval b env)) Q E s) :
    wpAny M A (isTrue (.BoolOp o (y :: r) p) env whole) Q E s := by
  rcases h with ⟨rfl, rfl⟩ | ⟨_, rfl⟩
  · cases o
    · refine isTrue_and (wpAny_mono q (fun c s' h => ?_) fun _ _ x => x)
      cases c
      · exact h
      · exact isTrue_and_nil h
    · refine isTrue_or (wpAny_mono q (fun c s' h => ?_) fun _ _ x => x)
      cases c
      · exact isTrue_or_nil h
      · exact h
  · exact q
theorem base_plain {o : Expr} {n : Str} {whole : Sem Value} (h : isBase o = true) : attributeBase o n env whole = whole := by
  cases o <;> first | rfl | cases h
theorem form_true {as : List Expr} {p : Pos} (hs : as.all notStar = true) (hl : as.length < 30) : methodCallForm as.length (backTo p (starEach as env)) [] = true := by
  unfold methodCallForm
  have h1 : (backTo p (starEach as env)).all (!·.1) = true := by
    have := plain_star (env := env) (pos := p) hs
    rw [List.all_eq_true]
    intro x hx
    rw [List.any_eq_false] at this
    have := this x hx
    simpa using this
  rw [h1]
  simp [hl]
end
section
variable {w : World} {A : Around} {E : Value → Shared → Prop} {s : Shared} {env : Env}
theorem mc_of {o : Expr} {n : Str} {ap p : Pos} {as : List Expr} {Q : Value → Shared → Prop} (hb : isBase o = true) (hp : (ap.endLine == p.line) = true) (hs : as.all notStar = true) (hl : as.length < 30)
    (h : wpAny (model prog w) A (eval o env) (fun ov s₁ => ∀ pl, wpAny (model prog w) A (getMethod ov n pl) (fun fx s₂ => wpAny (model prog w) A (callWith p fx.1 fx.2 (backTo p (starEach as env)) []) Q E s₂) E s₁) E s) :
    wpAny (model prog w) A (eval (.Call (.Attribute o n ap) as [] p) env) Q E s := by
  rw [arm_eval_Call, base_plain hb]
  refine wpAny_bind (wpAny_mono h (fun ov s₁ h₁ => wpAny_bind (wpAny_standAt ?_)) fun _ _ x => x)
  have e1 : methodCallForm (as.length + ([] : List Keyword).length) (backTo p (starEach as env)) (backToKw p (keywordEach [] env)) = true := form_true hs hl
  refine wpAny_bind (wpAny_holding ?_)
  rw [e1]
  unfold calleeOf
  refine wpAny_mono (h₁ _) (fun fx s₂ h₂ => ?_) fun _ _ x => x
  refine wpAny_bind ?_
  unfold methodCallPos
  rw [hp]
  exact wpAny_pure h₂
theorem attr_of {o : Expr} {n : Str} {p : Pos} {Q : Value → Shared → Prop} (hb : isBase o = true) (h : wpAny (model prog w) A (eval o env) (fun ov s₁ => wpAny (model prog w) A (getAttr ov n true) Q E s₁) E s) :
    wpAny (model prog w) A (eval (.Attribute o n p) env) Q E s := by
  refine Attribute_any_ h ?_
  simp only [arm_eval_Attribute, base_plain hb]
theorem sub_plain {slice : Expr} {o i : Value} (h : notSlice slice = true) : subscripted slice false o i = operate [o, i] (getItem o i) := by
  cases slice <;> first | rfl | cases h
theorem sub_of {o i : Expr} {p : Pos} {Q : Value → Shared → Prop} (hs : notSlice i = true)
    (h : wpAny (model prog w) A (eval o env) (fun ov s₁ => wpAny (model prog w) A (eval i env) (fun iv s₂ => ∃ T id, s₂.TypeIs ov T ∧ typeLookup (.type T) "__getitem__" = pure (some (.builtin id)) ∧ wpAny (model prog w) A (getItem ov iv) Q E s₂) E s₁) E s) :
    wpAny (model prog w) A (eval (.Subscript o i p) env) Q E s := by
  refine Subscript_ (wpAny_mono h (fun ov s₁ h₁ => wpAny_mono h₁ (fun iv s₂ h₂ => ?_) fun _ _ x => x) fun _ _ x => x)
  refine @bc _ fun k_ => ?_
  obtain ⟨T, id, hT, hl, hg⟩ := h₂
  apply k_; clear k_
  refine wpAny_bind ?_
  refine wpAny_bind (wpAny_specialOf hT hl ?_)
  have fin : wpAny (model prog w) A (subscripted i false ov iv) (fun r s₃ => wpAny (model prog w) A (letTemporaryGo o ov r >>= fun _ => pure r) Q E s₃) E s₂ := by
    rw [sub_plain hs]
    exact wpAny_operating (wpAny_mono hg (fun r s₃ h₃ => wpAny_bind (wpAny_letTemporaryGo (wpAny_pure h₃))) fun _ _ x => x)
  exact wpAny_pure (wpAny_bind fin)
theorem i_of {x : Expr} {i : Int} {Q : Value → Shared → Prop} (h : IsI x i) (q : ∀ t t', Q (.int i t) { s with toks := t' }) : wpAny (model prog w) A (eval x env) Q E s := by
  obtain ⟨k, p, rfl⟩ := h
  exact wpAny_Constant_int (q _ _)
theorem int_of {x : Expr} {i : Int} {Q : Value → Shared → Prop} (h : IsInt x i) (q : ∀ t t', Q (.int i t) { s with toks := t' }) : wpAny (model prog w) A (eval x env) Q E s := by
  refine @bc _ fun k_ => ?_
  rcases h with h | ⟨j, y, p, rfl, h, rfl⟩ | ⟨a, b, y, z, p, rfl, ha, hb, hc, rfl⟩ <;> (apply k_; clear k_)
  · exact i_of h q
  · obtain ⟨k, p', rfl⟩ := h
    exact wpAny_UnaryOp (wpAny_Constant_int (PyProof.Rows.neg_int (q _ _)))
  · obtain ⟨k, p', rfl⟩ := ha
    obtain ⟨k, p', rfl⟩ := hb
    exact wpAny_BinOp (wpAny_Constant_int (wpAny_Constant_int (pow_int_small hc.1 hc.2.1 hc.2.2 (q _ _))))
theorem asInt_ok {x : Expr} {i : Int} (h : (chk (asInt x) fun j => j == i) = true) : IsInt x i := by
  obtain ⟨j, hj, h⟩ := chk_ok h
  have h : (j == i) = true := h
  rw [← eq_of_beq h]; exact hj
end
end Mine
set_option backward.match.sparseCases false
namespace Mine
open PySem PySem.W PyProof.Rows PySem.SeqAt PySem.Calls
section
variable {w : World} {base : Heap} {g₀ : Array GenState} {o₀ : OsState}
variable {A : Around} {E : Value → Shared → Prop} {s s' : Shared} {W W' : Wd} {H H' : St} {K : Frag} {n : Nat}
abbrev OKQ (cA : Cls → Addr) (prog : Program) (w : World) (base : Heap) (g₀ : Array GenState) (o₀ : OsState) (s : Shared) (W : Wd) (Q : V → St → Prop) (Qm : Value → Shared → Prop) : Prop :=
  ∀ y H' v s' W', Ext NP s W s' W' → StOk cA prog w base g₀ o₀ s' W' H' → Rep cA s'.heap W' y v → Q y H' → Qm v s'
abbrev OKX (cA : Cls → Addr) (xA : Addr) (prog : Program) (w : World) (base : Heap) (g₀ : Array GenState) (o₀ : OsState) (s : Shared) (W : Wd) (X : St → Prop) (Em : Value → Shared → Prop) : Prop :=
  ∀ e s' W' H', Ext NP s W s' W' → StOk cA prog w base g₀ o₀ s' W' H' → Flies xA e s' W' → X H' → Em e s'
noncomputable def Wd.drop (W : Wd) (D : Addr → Prop) : Wd := by classical exact fun b => if D b then .none else W b
theorem Wd.drop_in (W : Wd) {D : Addr → Prop} {b : Addr} (h : D b) : W.drop D b = .none := by simp [Wd.drop, h]
theorem Wd.drop_out (W : Wd) {D : Addr → Prop} {b : Addr} (h : ¬ D b) : W.drop D b = W b := by simp [Wd.drop, h]
theorem Wd.drop_none (W : Wd) {D : Addr → Prop} {b : Addr} (h : W b = .none) : W.drop D b = .none := by
  by_cases q : D b
  · exact Wd.drop_in _ q
  · rw [Wd.drop_out _ q]; exact h
theorem keeps_drop (W : Wd) (D : Addr → Prop) (h : Heap) : Keeps W h (W.drop D) h := fun b o hw e => ⟨e, Wd.drop_none W hw⟩
theorem StOk.drop (S : StOk cA prog w base g₀ o₀ s W H) (D : Addr → Prop) (hD : ∀ b t, D b → W b = some (.obj t) → H t = .none) : StOk cA prog w base g₀ o₀ s (W.drop D) H :=
  ⟨S.keep, fun b o e => Wd.drop_none W (S.wbase b o e), fun b hw => S.live b (fun q => hw (Wd.drop_none W q)), fun t a o e => (S.objs t a o e).keeps (keeps_drop W D _) fun b ob hw eb => by
      refine ⟨eb, ?_⟩
      rw [Wd.drop_out W (fun q => by have := hD b t q hw; rw [e] at this; cases this)]
      exact hw, S.gens, S.os⟩
theorem StOk.forget (S : StOk cA prog w base g₀ o₀ s W H) (t : Tag) : StOk cA prog w base g₀ o₀ s W (upd H t .none) :=
  ⟨S.keep, S.wbase, S.live, fun t' a o e => by
    by_cases q : t' = t
    · subst q; rw [upd_same] at e; cases e
    · rw [upd_ne _ _ q] at e; exact S.objs t' a o e, S.gens, S.os⟩
theorem Ext.drop {P : Addr → Prop} {D : Addr → Prop} (x : Ext P s W s' W') (hD : ∀ b, D b → W b = .none ∧ s.heap.get? b = none) : Ext P s W s' (W'.drop D) :=
  ⟨fun b o hw e => ⟨(x.keep b o hw e).1, Wd.drop_none _ (x.keep b o hw e).2⟩, fun b hw => by
    rw [Wd.drop_out _ (fun q => by rw [(hD b q).1] at hw; cases hw)]; exact x.mach b hw, x.turn, x.nofld, fun b o hw hp e => ⟨(x.temp b o hw hp e).1, by
    rw [Wd.drop_out _ (fun q => by rw [(hD b q).1] at hw; cases hw)]; exact (x.temp b o hw hp e).2⟩⟩
theorem Got.frz (S : StOk cA prog w base g₀ o₀ s W H) {xs : List V} {v : Value} (m : Got cA prog w base g₀ o₀ s W H xs v s') (hn : xs.length ≤ lim) :
    ∃ W', Ext NP s W s' W' ∧ StOk cA prog w base g₀ o₀ s' W' H ∧ Rep cA s'.heap W' (.lst xs) v := by
  refine @bc _ fun k_ => ?_
  obtain ⟨a, vs, W', e0_, hf, E', S', ha, hl, e, r⟩ := m
  apply k_; clear k_
  subst e0_
  refine ⟨W'.drop (· = a), E'.drop (fun b q => by subst q; exact ⟨S.free hf, hf⟩), S'.drop _ (fun b t q hw => by subst q; rw [ha] at hw; cases hw), a, vs, rfl, Wd.drop_in _ rfl, hl, by (first | lia | omega), (r hn).keeps (keeps_drop W' _ _)⟩
theorem Got.thw (S : StOk cA prog w base g₀ o₀ s W H) {xs : List V} {v : Value} {t : Tag} (m : Got cA prog w base g₀ o₀ s W H xs v s') (hn : xs.length ≤ lim) :
    ∃ a W', v = .ref a ∧ Ext NP s W s' W' ∧ StOk cA prog w base g₀ o₀ s' W' (upd H t (some (a, .list xs))) := by
  refine @bc _ fun k_ => ?_
  obtain ⟨a, vs, W', e0_, hf, E', S', ha, hl, e, r⟩ := m
  apply k_; clear k_
  subst e0_
  have hWa : W a = .none := S.free hf
  have kp : Keeps W' s'.heap (W'.put a (.obj t)) s'.heap := fun b o hw e => ⟨e, by rw [Wd.put_ne _ _ (fun q => by rw [q, ha] at hw; cases hw)]; exact hw⟩
  refine ⟨a, W'.put a (.obj t), rfl, ⟨fun b o hw e => ⟨(E'.keep b o hw e).1, by rw [Wd.put_ne _ _ (fun q => by rw [q, hf] at e; cases e)]; exact (E'.keep b o hw e).2⟩, fun b hw => by
      rw [Wd.put_ne _ _ (fun q => by rw [q, hWa] at hw; cases hw)]; exact E'.mach b hw, E'.turn, E'.nofld, fun b o hw hp e => ⟨(E'.temp b o hw hp e).1, by
      rw [Wd.put_ne _ _ (fun q => by rw [q, hWa] at hw; cases hw)]; exact (E'.temp b o hw hp e).2⟩⟩, S'.keep, fun b o e => ?_, fun b hw => ?_, fun t' a' o e => ?_, S'.gens, S'.os⟩
  · have := S'.wbase b o e
    rw [Wd.put_ne _ _ (fun q => by rw [q, ha] at this; cases this)]; exact this
  · by_cases q : b = a
    · subst q; obtain ⟨n, e⟩ := hl; exact ⟨_, e⟩
    · rw [Wd.put_ne _ _ q] at hw; exact S'.live b hw
  · by_cases q : t' = t
    · subst q
      rw [upd_same] at e
      cases e
      exact ⟨Wd.put_self .., vs, hl, by (first | lia | omega), (r hn).keeps kp⟩
    · rw [upd_ne _ _ q] at e
      exact (S'.objs t' a' o e).keeps kp fun b ob hw eb => ⟨eb, by rw [Wd.put_ne _ _ (fun z => by rw [z, ha] at hw; cases hw)]; exact hw⟩
variable (KO : KOk K cA fA base) (CS : CallSnd cA fA xA prog w base g₀ o₀ n)
include KO
theorem getM (S : StOk cA prog w base g₀ o₀ s W H) {f : Fn} {c : Cls} {x : V} {v : Value} {xs : List V} {pl : Sem Bool} {Q : Value × List Value → Shared → Prop} (hc : f.cls = some c) (r : Rep cA s.heap W x v) (e : fldsV H c x = some xs)
    (h : Q (.ref (fA f), [v]) s) : wpAny (model prog w) A (getMethod v (Str.ofString f.name) pl) Q E s := by
  refine @bc _ fun k_ => ?_
  obtain ⟨a, dx, es, k, e0_, h1, h2, h3, h4⟩ := inst_at S r e
  apply k_; clear k_
  subst e0_
  have ck := KO.cls c
  have hm : getL (Str.ofString f.name) es = some none := by
    have := methApart_all f
    unfold methApart at this
    rw [hc] at this
    obtain ⟨p, q, _⟩ := keys_none (n := Str.ofString f.name) h3 (by
      rw [List.all_eq_true] at this ⊢
      intro y hy
      exact this y (List.mem_of_mem_take hy))
    unfold getL
    rw [p, q]; rfl
  refine method_fn (od := some (dictOf es k)) (S.k KO) ⟨h1, rfl, rfl, h2⟩ (plainGet_of (name := "") ck.getA).1 (plainGet_of (name := "") ck.getA).2 (KO.meth f c hc) (beq_iff_eq.mp (KO.fn f).1) ?_ h
  show (lookIn (Str.ofString f.name) (dictOf es k)).map _ = _
  rw [lookIn_dict, hm]; rfl
theorem reps_one0 {h : Heap} {x : V} {v : Value} (r : Rep cA h W x v) : Reps cA h W [x] [v] := ⟨r, trivial⟩
theorem Site.under (Si : Site A (2 * n + 1) s W) (c : Addr) (args : Args) (hc : Code.envs (.builtin "type.__call__" args) = []) (hg : (Code.builtin "type.__call__" args).cUnits ≤ 50) (hw : (Code.builtin "type.__call__" args).weight ≤ 1) :
    Site (A.under (.builtin "type.__call__" args)) (2 * n) s W := by
  refine @bc _ fun k_ => ?_
  obtain ⟨⟨r1, r2, r3⟩, l, hl, h⟩ := Si
  apply k_; clear k_
  refine ⟨⟨r1, ?_, ?_⟩, l, ?_, h⟩
  · show A.units + (Code.builtin "type.__call__" args).cUnits + 100 * (2 * n) + 200 < cLine
    (first | lia | omega)
  · show A.depth + (Code.builtin "type.__call__" args).weight + 4 * (2 * n) + 10 < recursionLimit
    (first | lia | omega)
  · show pushEnvs (Code.envs (.builtin "type.__call__" args)) A.frames = some l
    rw [hc]; exact hl
include CS
theorem newO (S : StOk cA prog w base g₀ o₀ s W H) (Si : Site A (2 * n + 1) s W) {c : Cls} {t : Tag} {vs : List V} {args : List Value} {Q : V → Nat → St → Prop} {Qm : Value → Shared → Prop} (ra : Reps cA s.heap W vs args)
    (h : ∀ a, callAt defs n (initFn c) (.ref t a :: vs) (upd H t (some (a, .inst c []))) (fun y H' => Q y a H') (fun _ => False))
    (hq : ∀ a y H' v s' W', Ext NP s W s' W' → StOk cA prog w base g₀ o₀ s' W' H' → Rep cA s'.heap W' y v → Q y a H' → v = .none ∧ Qm (.ref a) s') :
    wpAny (model prog w) A (call (.ref (cA c)) args) Qm E s := by
  obtain ⟨mk, mi⟩ := KO.makes c
  refine wpAny_call ?_
  obtain ⟨hp, g, d, tk, os⟩ := s
  refine make_core (makes_of (S.k KO) mk) (looks_findIn (S.k KO) mi) (fun self => bind_fn (S.k KO) self (beq_iff_eq.mp (KO.fn _).1)) (.inl rfl) ?_
  have hN : hp.get? (hp.objs.size + 1) = none := by
    cases q : hp.get? (hp.objs.size + 1) with
    | none => rfl
    | some o => exact absurd (Heap.lt_size q) (Nat.not_lt.mpr (Nat.le_succ _))
  have S1 : StOk cA prog w base g₀ o₀ ⟨hp.push emptyDict, g, d, tk, os⟩ (W.put hp.objs.size (.obj t)) H := S.owned (size_free _) (fun _ _ e => Heap.get?_push_of_some _ e) ⟨_, Heap.get?_push_size _ rfl⟩
  have E1 : Ext NP ⟨hp, g, d, tk, os⟩ W ⟨hp.push emptyDict, g, d, tk, os⟩ (W.put hp.objs.size (.obj t)) := Ext.owned (size_free _) S.fresh fun _ _ e => Heap.get?_push_of_some _ e
  have sz : (hp.push emptyDict).objs.size = hp.objs.size + 1 := Heap.size_push ..
  have hx : ((hp.push emptyDict).push (instObj (cA c) hp.objs.size)).get? (hp.objs.size + 1) = some (instObj (cA c) hp.objs.size) := by
    rw [← sz]; exact Heap.get?_push_size _ rfl
  have hd : ((hp.push emptyDict).push (instObj (cA c) hp.objs.size)).get? hp.objs.size = some emptyDict := Heap.get?_push_of_some _ (Heap.get?_push_size _ rfl)
  have hN1 : (hp.push emptyDict).get? (hp.objs.size + 1) = none := by rw [← sz]; exact size_free _
  have hW1 : (W.put hp.objs.size (.obj t)) (hp.objs.size + 1) = .none := S1.free hN1
  have S2 : StOk cA prog w base g₀ o₀ ⟨(hp.push emptyDict).push (instObj (cA c) hp.objs.size), g, d, tk, os⟩ ((W.put hp.objs.size (.obj t)).put (hp.objs.size + 1) (.obj t)) (upd H t (some (hp.objs.size + 1, .inst c []))) :=
    S1.own hN1 (fun _ _ e => Heap.get?_push_of_some _ e) rfl rfl ⟨_, hx⟩ ⟨Wd.put_self .., hp.objs.size, [], 0, by rw [Wd.put_ne _ _ (Nat.ne_of_lt (Nat.lt_succ_self _)), Wd.put_self], Nat.ne_of_lt (Nat.lt_succ_self _), hx, hd, by cases c.fields <;> trivial, trivial⟩
  have E2 : Ext NP ⟨hp, g, d, tk, os⟩ W ⟨(hp.push emptyDict).push (instObj (cA c) hp.objs.size), g, d, tk, os⟩ ((W.put hp.objs.size (.obj t)).put (hp.objs.size + 1) (.obj t)) :=
    E1.trans (Ext.owned hN1 hW1 fun _ _ e => Heap.get?_push_of_some _ e)
  have Si2 : Site (A.under (.builtin "type.__call__" ⟨.ref (cA c) :: args, []⟩)) (2 * n) _ _ := (Site.under KO Si (cA c) ⟨.ref (cA c) :: args, []⟩ rfl (Nat.le_of_ble_eq_true rfl) (Nat.le_of_ble_eq_true rfl)).ext E2
  refine CS (initFn c) (.ref t (hp.objs.size + 1) :: vs) _ _ _ _ _ _ (.ref (hp.objs.size + 1) :: args) _ (h _) S2 ⟨rfl, E2.reps ra⟩ Si2 (fun y H' v s' W' e2 s2 r2 q2 => ?_) (fun _ _ _ _ _ _ _ f => f.elim)
  obtain ⟨rfl, z⟩ := hq _ y H' v s' W' (E2.trans e2) s2 r2 q2
  exact ⟨rfl, z⟩
end
end Mine
set_option backward.match.sparseCases false
namespace Mine
open PySem PySem.W PyProof.Rows PySem.SeqAt PySem.Calls
noncomputable def isNm (look : Str → Option NameKind) (N : List Str) (i : Nat) (x : Expr) : Bool := chk (asName' x) fun n => isVar look N i n && decide (i < N.length)
theorem isNm_eq {look : Str → Option NameKind} {N : List Str} {i : Nat} {x : Expr} (h : isNm look N i x = true) : ∃ n p, x = .Name n p ∧ isVar look N i n = true ∧ i < N.length := by
  refine @bc _ fun k_ => ?_
  obtain ⟨n, ⟨p, e⟩, h⟩ := chk_ok h
  apply k_; clear k_
  exact ⟨n, p, e, (and_ok h).1, dec_ok (and_ok h).2⟩
noncomputable def isTgts (look : Str → Option NameKind) (N : List Str) : List Nat → List Expr → Bool
  | [], xs => (isNil xs).isSome
  | i :: is, xs => match xs with
    | [] => false
    | x :: xs => isNm look N i x && isTgts look N is xs
noncomputable def isTgt (look : Str → Option NameKind) (N : List Str) (is : List Nat) (x : Expr) : Bool := match one is with
  | some i => isNm look N i.1 x
  | none => chk (asTup' x) fun xs => isTgts look N is xs
section
variable {w : World} {base : Heap} {g₀ : Array GenState} {o₀ : OsState}
variable {A : Around} {E : Value → Shared → Prop} {s s' : Shared} {W W' : Wd} {H H' : St} {K : Frag} {n : Nat}
variable {look : Str → Option NameKind} {N : List Str} {env : Env} {r r' : Loc}
theorem isVar_eq {i : Nat} {m : Str} (h : isVar look N i m = true) : N[i]? = some m ∧ (look m = some .local ∨ look m = some .cell) ∧ (m == ("__debug__" : Str)) = false := by
  simp only [isVar, Bool.and_eq_true, beq_iff_eq, Bool.not_eq_true', Bool.or_eq_true] at h
  exact ⟨h.1.1, h.1.2, h.2⟩
theorem bind1_snd (S : StOk cA prog w base g₀ o₀ s W H) (F : FrOk cA look N env s W r) {i : Nat} {p : Pos} {m : Str} {x : V} {v : Value} {Q : Unit → Shared → Prop} (hv : isVar look N i m = true) (hi : i < r.length) (rv : Rep cA s.heap W x v)
    (h : ∀ s', Ext (PEnv look env) s W s' W → StOk cA prog w base g₀ o₀ s' W H → FrOk cA look N env s' W (r.put i x) → Q () s') : wpAny (model prog w) A (assign (.Name m p) env v) Q E s := by
  refine @bc _ fun k_ => ?_
  obtain ⟨h1, h2, _⟩ := isVar_eq hv
  apply k_; clear k_
  exact wpAny_assign_Name (st_var S F h1 hi rv h2 h)
theorem starNone {is : List Nat} : ∀ {ts : List Expr}, isTgts look N is ts = true → (assignEach ts env).findIdx? (·.1) = none ∧ (assignEach ts env).length = is.length := by
  induction is with
  | nil => intro ts h; rw [(some_ok h : ts = [])]; exact ⟨rfl, rfl⟩
  | cons i is ih =>
    intro ts h
    cases ts with
    | nil => cases h
    | cons t ts =>
      refine @bc _ fun k_ => ?_
      obtain ⟨h1, h2⟩ := and_ok h
      obtain ⟨a, b⟩ := ih h2
      obtain ⟨nm, ps, e0_, _⟩ := isNm_eq h1
      apply k_; clear k_
      clear h
      subst e0_
      have e : assignEach (Expr.Name nm ps :: ts) env = (false, assign (.Name nm ps) env) :: assignEach ts env := rfl
      simp only [e, List.findIdx?_cons]
      simp [a, b]
theorem Loc.put_length (r : Loc) (i : Nat) (x : V) : (r.put i x).length = r.length := by simp [Loc.put]
theorem order_snd {is : List Nat} : ∀ {ts : List Expr} {xs : List V} {vs : List Value} {s : Shared} {r : Loc} {Q : Unit → Shared → Prop}, isTgts look N is ts = true → N.length ≤ r.length → StOk cA prog w base g₀ o₀ s W H → FrOk cA look N env s W r → Reps cA s.heap W xs vs → putAll r is xs = some r' →
    (∀ s', Ext (PEnv look env) s W s' W → StOk cA prog w base g₀ o₀ s' W H → FrOk cA look N env s' W r' → Q () s') → wpAny (model prog w) A (assignInOrder ((assignEach ts env).map (·.2)) vs) Q E s := by
  induction is with
  | nil =>
    intro ts xs vs s r Q ck hl S F rv e h
    rw [(some_ok ck : ts = [])]
    cases xs with
    | cons => cases e
    | nil => cases vs with
      | cons => exact rv.elim
      | nil => cases e; exact wpAny_pure (h s (Ext.refl ..) S F)
  | cons i is ih =>
    intro ts xs vs s r Q ck hl S F rv e h
    cases ts with
    | nil => cases ck
    | cons t ts => cases xs with
      | nil => cases e
      | cons x xs => cases vs with
        | nil => exact rv.elim
        | cons v vs =>
          refine @bc _ fun k_ => ?_
          obtain ⟨c1, c2⟩ := and_ok ck
          obtain ⟨m, p, e0_, d1, d2⟩ := isNm_eq c1
          apply k_; clear k_ ck
          subst e0_
          refine wpAny_bind (wpAny_holding (bind1_snd S F d1 (Nat.lt_of_lt_of_le d2 hl) rv.1 fun s₁ e₁ S₁ F₁ => ?_))
          exact ih c2 (by rw [Loc.put_length]; exact hl) S₁ F₁ (e₁.reps rv.2) e fun s' e₂ S' F' => h s' (e₁.trans e₂) S' F'
theorem unpack_snd (S : StOk cA prog w base g₀ o₀ s W H) (hh : A.handled = none) {x : V} {v : Value} {xs : List V} {Q : List Value → Shared → Prop} (r : Rep cA s.heap W x v) (e : unpackOf x = some xs)
    (h : ∀ vs h', (∀ b o, s.heap.get? b = some o → h'.get? b = some o) → Reps cA s.heap W xs vs → Q vs { s with heap := h' }) : wpAny (model prog w) A (unpackItems v xs.length none) Q E s := by
  have kk : ∀ h', Heap.ExtBut s.heap.objs.size s.heap h' → ∀ b o, s.heap.get? b = some o → h'.get? b = some o := fun h' he b o q => he b o (Nat.ne_of_lt (Heap.lt_size q)) q
  cases x <;> simp only [unpackOf] at e
  case lst ys =>
    cases e
    refine @bc _ fun k_ => ?_
    obtain ⟨a, vs, e0_, hw, hl, hn, rq⟩ := r
    apply k_; clear k_
    subst e0_
    have := kun_itemsOf (prog := prog) (w := w) (A := A) (E := E) (s := s) (Q := Q) hh hl.isList fun h' he => h vs h' (kk h' he) rq
    rw [List.size_toArray, ← rq.length] at this
    exact this
  case tup ys =>
    cases e
    refine @bc _ fun k_ => ?_
    obtain ⟨a, vs, e0_, hw, hl, hn, rq⟩ := r
    apply k_; clear k_
    subst e0_
    have := wpAny_unpackItems_tuple (prog := prog) (w := w) (A := A) (E := E) (s := s) (Q := Q) hh (show s.heap.IsTuple a vs.toArray from hl) fun h' he => h vs h' (kk h' he) rq
    rw [List.size_toArray, ← rq.length] at this
    exact this
  all_goals cases e
theorem putAll_length : ∀ {is : List Nat} {xs : List V} {r r' : Loc}, putAll r is xs = some r' → is.length = xs.length ∧ r'.length = r.length
  | [], [], _, _, e => by cases e; exact ⟨rfl, rfl⟩
  | i :: is, x :: xs, r, r', e => by
    obtain ⟨a, b⟩ := putAll_length (is := is) (xs := xs) e
    rw [Loc.put_length] at b
    simp [a, b]
  | [], _ :: _, _, _, e => by cases e
  | _ :: _, [], _, _, e => by cases e
theorem bind_snd (S : StOk cA prog w base g₀ o₀ s W H) (F : FrOk cA look N env s W r) (hh : A.handled = none) {is : List Nat} {t : Expr} {x : V} {v : Value} {Q : Unit → Shared → Prop} (ck : isTgt look N is t = true) (hl : N.length ≤ r.length) (rv : Rep cA s.heap W x v) (e : bindT r is x = some r')
    (h : ∀ s', Ext (PEnv look env) s W s' W → StOk cA prog w base g₀ o₀ s' W H → FrOk cA look N env s' W r' → Q () s') : wpAny (model prog w) A (assign t env v) Q E s := by
  have many : (chk (asTup' t) fun xs => isTgts look N is xs) = true → ((unpackOf x).bind fun vs => putAll r is vs) = some r' → wpAny (model prog w) A (assign t env v) Q E s := by
    intro ck' e'
    refine @bc _ fun k_ => ?_
    obtain ⟨ts, ⟨k, p, e0_⟩, cq⟩ := chk_ok ck'
    apply k_; clear k_
    subst e0_
    refine @bc _ fun k_ => ?_
    obtain ⟨xs, hxs, hp⟩ := bind_is e'
    obtain ⟨a, b⟩ := starNone (env := env) cq
    apply k_; clear k_
    refine wpAny_bind (wpAny_standAt ?_)
    unfold unpack
    simp only [a, b, (putAll_length hp).1]
    refine wpAny_bind (wpAny_holding (unpack_snd S hh rv hxs fun vs h' k rq => ?_))
    have e₁ : Ext (PEnv look env) s W { s with heap := h' } W := Ext.of_keeps k
    have e₀ : Ext NP s W { s with heap := h' } W := Ext.of_keeps k
    exact order_snd cq hl (S.grow k) (F.ext0 e₀) (e₁.reps rq) hp fun s' e₂ S' F' => h s' (e₁.trans e₂) S' F'
  cases is with
  | nil => exact many ck e
  | cons i is => cases is with
    | cons j is => exact many ck e
    | nil =>
      refine @bc _ fun k_ => ?_
      obtain ⟨m, p, e0_, d1, d2⟩ := isNm_eq (show isNm look N i t = true from ck)
      apply k_; clear k_
      subst e0_
      have e_ := Option.some.inj e
      clear e
      subst e_
      exact bind1_snd S F d1 (Nat.lt_of_lt_of_le d2 hl) rv h
structure Steps (cA : Cls → Addr) (prog : Program) (w : World) (A : Around) (I : Addr) (s₀ : Shared) (W₀ : Wd) (xs : List V) (St : Nat → Heap → Prop) : Prop where
  frame : ∀ i h h', St i h → (∀ o, h.get? I = some o → h'.get? I = some o) → (∀ b o, W₀ b = .none → s₀.heap.get? b = some o → h'.get? b = some o) → St i h'
  live : ∀ i h, St i h → ∃ o, h.get? I = some o
  self : ∀ i (s : Shared) (Q : Value → Shared → Prop) (E : Value → Shared → Prop), St i s.heap → Q (.ref I) s → wpAny (model prog w) A (pyIter (.ref I)) Q E s
  letGo : ∀ i (s : Shared) (t : Expr) (v : Value) (x : V) (Q : Unit → Shared → Prop) (E : Value → Shared → Prop), St (i + 1) s.heap → xs[i]? = some x → Rep cA s₀.heap W₀ x v → Q () s → wpAny (model prog w) A (letOwnedTupleGo t (.ref I) v) Q E s
  item : ∀ i x (s : Shared) (Q : Option Value → Shared → Prop) (E : Value → Shared → Prop), xs[i]? = some x → St i s.heap →
    (∀ v h' tk, Rep cA s₀.heap W₀ x v → St (i + 1) h' → (∀ b o, b ≠ I → s.heap.get? b = some o → h'.get? b = some o) → Q (some v) { s with heap := h', toks := tk }) → wpAny (model prog w) A (pyNext (.ref I)) Q E s
  done : ∀ (s : Shared) (Q : Option Value → Shared → Prop) (E : Value → Shared → Prop), St xs.length s.heap →
    (∀ h' tk, (∀ b o, b ≠ I → s.heap.get? b = some o → h'.get? b = some o) → Q none { s with heap := h', toks := tk }) → wpAny (model prog w) A (pyNext (.ref I)) Q E s
theorem iter_snd (S : StOk cA prog w base g₀ o₀ s W H) (hh : A.handled = none) {x : V} {v : Value} {xs : List V} {Q : Value → Shared → Prop} (r : Rep cA s.heap W x v) (e : iterOf x = some xs)
    (h : ∀ I s₁ St, s.heap.get? I = none → (∀ b o, s.heap.get? b = some o → s₁.heap.get? b = some o) → s₁.gens = s.gens → s₁.os = s.os → Steps cA prog w A I s W xs St → St 0 s₁.heap → Q (.ref I) s₁) : wpAny (model prog w) A (pyIter v) Q E s := by
  cases x <;> simp only [iterOf] at e
  case lst ys =>
    have e_ := Option.some.inj e
    subst e_
    refine @bc _ fun k_ => ?_
    obtain ⟨a, vs, e0_, hw, hl, hn, rq⟩ := r
    apply k_; clear k_
    subst e0_
    have hlt : a < s.heap.objs.size := by obtain ⟨_, e⟩ := hl; exact Heap.lt_size e
    have hne : a ≠ s.heap.objs.size := Nat.ne_of_lt hlt
    have hlen := rq.length
    have kk : ∀ b o, s.heap.get? b = some o → (s.heap.push { cls := .type "list_iterator", data := .fields #[.ref a, .int 0 0] }).get? b = some o := fun _ _ q => Heap.get?_push_of_some _ q
    have Wk := Walks.list (prog := prog) (w := w) hh s.heap.objs.size a hne vs.toArray
    refine wpAny_pyIter_list hl.isList (h _ _ (fun i h => h.IsListIter s.heap.objs.size a i ∧ h.IsList a vs.toArray) (size_free _) kk rfl rfl ⟨?_, ?_, ?_, ?_, ?_, ?_⟩ ⟨⟨_, Heap.get?_push_size _ rfl, rfl, rfl⟩, hl.isList.push _⟩)
    · rintro i h h' ⟨h1, h2⟩ k1 k2
      refine ⟨h1.at k1, ?_⟩
      obtain ⟨n, e⟩ := hl
      exact ⟨_, k2 a _ hw e, rfl, n, rfl⟩
    · intro i h z2_
      refine @bc _ fun k_ => ?_
      obtain ⟨⟨o, ho, _⟩, _⟩ := z2_
      apply k_; clear k_
      exact ⟨o, ho⟩
    · rintro i s Q E st q; exact Wk.self i s Q E st q
    · rintro i s t v x Q E st _ _ q; exact letGo_listiter st.1 q
    · intro i y s' Q E hy st q
      have hi : i < vs.length := by rw [← hlen]; exact (List.getElem?_eq_some_iff.mp hy).1
      refine Wk.item i s' Q E (by simpa using hi) st fun u h' tk hu st' k => ?_
      obtain ⟨v', hv', rv'⟩ := rq.get cA hy
      have : u = v' := by simpa [hv'] using hu.symm
      subst this
      exact q u h' tk rv' st' fun b o hb e => k b o (by simpa using hb) e
    · intro s' Q E st q
      rw [hlen] at st
      exact Wk.done s' Q E (by simpa using st) fun h' tk k => q h' tk fun b o hb e => k b o (by simpa using hb) e
  case rng a b c =>
    split at e
    · rename_i hc
      have e_ := Option.some.inj e
      clear e
      subst e_
      refine @bc _ fun k_ => ?_
      obtain ⟨rr, t, u, z, e0_, hw, hr⟩ := r
      apply k_; clear k_
      subst e0_
      have kk : ∀ b' o, s.heap.get? b' = some o → (s.heap.push { cls := .type "range_iterator", data := .fields #[rawInt a, rawInt (Builtin.Range.rangeSize a b c), rawInt c] }).get? b' = some o := fun _ _ q => Heap.get?_push_of_some _ q
      have Wk := Walks.range (prog := prog) (w := w) hh s.heap.objs.size a c (rngLen a b c)
      have hsz := rngSize a b c hc.1
      have st0 : IsRangeIter (s.heap.push { cls := .type "range_iterator", data := .fields #[rawInt a, rawInt (Builtin.Range.rangeSize a b c), rawInt c] }) s.heap.objs.size (a + ((0 : Nat) : Int) * c) ((rngLen a b c : Nat) - ((0 : Nat) : Int)) c := by
        have := Heap.get?_push_size s.heap (o := { cls := .type "range_iterator", data := .fields #[rawInt a, rawInt (Builtin.Range.rangeSize a b c), rawInt c] }) rfl
        rw [hsz] at this
        simpa [IsRangeIter, hsz] using this
      have hxl : (rngItems a b c).length = rngLen a b c := by simp [rngItems]
      have get : ∀ {i : Nat} {y : V}, (rngItems a b c)[i]? = some y → i < rngLen a b c ∧ y = .int (a + i * c) := by
        intro i y hy
        have hi : i < rngLen a b c := by rw [← hxl]; exact (List.getElem?_eq_some_iff.mp hy).1
        refine ⟨hi, ?_⟩
        simp only [rngItems, List.getElem?_map, List.getElem?_range hi, Option.map_some, Option.some.injEq] at hy
        simp only [← hy, Int.mul_comm]
      refine wpAny_pyIter_range hr (rngSmall hc.2.1 hc.2.2.1 hc.2.2.2.1 hc.2.2.2.2.1 hc.2.2.2.2.2.1 hc.2.2.2.2.2.2 hc.1) (h _ _ (fun i h => IsRangeIter h s.heap.objs.size (a + (i : Nat) * c) ((rngLen a b c : Nat) - (i : Nat)) c) (size_free _) kk rfl rfl ⟨?_, ?_, ?_, ?_, ?_, ?_⟩ st0)
      · rintro i h h' h1 k1 k2
        exact k1 _ h1
      · rintro i h h1
        exact ⟨_, h1⟩
      · rintro i s Q E st q; exact Wk.self i s Q E st q
      · rintro i s t v x Q E st hx rv q
        obtain ⟨_, rfl⟩ := get hx
        obtain ⟨tt, rfl⟩ := rv
        cases t <;> exact wpAny_pure q
      · intro i y s' Q E hy st q
        obtain ⟨hi, rfl⟩ := get hy
        refine Wk.item i s' Q E hi st fun u h' tk hu st' k => ?_
        exact q u h' tk hu st' fun b o hb e => k b o (by simpa using hb) e
      · intro s' Q E st q
        rw [hxl] at st
        exact Wk.done s' Q E st fun h' tk k => q h' tk fun b o hb e => k b o (by simpa using hb) e
    · cases e
  all_goals cases e
end
end Mine
set_option backward.match.sparseCases false
namespace Mine
open PySem PySem.W PyProof.Rows PySem.SeqAt PySem.Calls
theorem lookup_relabel {env : Env} {k : NameKind} (hk : k ≠ .free) : ∀ {names : List (Str × NameKind)} {x : Str}, names.lookup x = some k →
    (names.map fun (n, k) => if (k == NameKind.free && env.scope.kind == .function && env.kindOf n == some .cell) then (n, NameKind.cell) else (n, k)).lookup x = some k
  | [], _, h => by simp at h
  | (m, k') :: r, x, h => by
    have ih := @lookup_relabel env k hk r x
    show List.lookup x ((if (k' == NameKind.free && env.scope.kind == .function && env.kindOf m == some .cell) = true then (m, NameKind.cell) else (m, k')) :: _) = _
    cases hx : x == m with
    | true =>
      simp only [List.lookup_cons, hx] at h
      cases h
      have : (k == NameKind.free) = false := by simpa using hk
      simp [this, List.lookup_cons, hx]
    | false =>
      simp only [List.lookup_cons, hx] at h
      by_cases hc : (k' == NameKind.free && env.scope.kind == .function && env.kindOf m == some .cell) = true
      · rw [if_pos hc]; simp only [List.lookup_cons, hx]; exact ih h
      · rw [if_neg hc]; simp only [List.lookup_cons, hx]; exact ih h
theorem closure_forIn {env : Env} : ∀ (names : List (Str × NameKind)) (acc : List (Str × Addr)) (f : Str × NameKind → List (Str × Addr) → Sem (ForInStep (List (Str × Addr)))),
    (∀ name kind cs, f (name, kind) cs = if kind == .free then (do let a ← cellOf env name; pure (.yield ((name, a) :: cs))) else pure (.yield cs)) →
    (∀ x ∈ names, x.2 = .free → ∃ c, env.cells.lookup x.1 = some c) → ∃ cl, (forIn names acc f : Sem (List (Str × Addr))) = pure cl := by
  intro x_
  induction x_ with
  | nil =>
    intro acc f _ _
    exact ⟨acc, by rw [List.forIn_nil]⟩
  | cons x_ r ih =>
    obtain ⟨m, k⟩ := x_
    intro acc f hf h
    simp only [List.forIn_cons, hf]
    by_cases hk : (k == NameKind.free) = true
    · obtain ⟨c, hc⟩ := h (m, k) (by simp) (by simpa using hk)
      rw [if_pos hk]
      have : cellOf env m = pure c := by unfold cellOf; rw [hc]
      rw [this]
      exact ih ((m, c) :: acc) f hf fun x hx => h x (by simp [hx])
    · rw [if_neg hk]
      exact ih acc f hf fun x hx => h x (by simp [hx])
theorem closure_is {scope : Scope} {env : Env} (h : ∀ x ∈ scope.names, x.2 = .free → ∃ c, env.cells.lookup x.1 = some c) : ∃ cl, closureFor scope env = pure cl := by
  obtain ⟨cl, e⟩ := closure_forIn (env := env) scope.names [] (fun x cs => if x.2 == .free then (do let a ← cellOf env x.1; pure (.yield ((x.1, a) :: cs))) else pure (.yield cs)) (fun _ _ _ => rfl) h
  refine ⟨cl, ?_⟩
  exact (congrArg (fun t : Sem (List (Str × Addr)) => t >>= fun cs => pure cs) e).trans (pure_bind cl pure)
section
variable {w : World} {A : Around} {R : Result → Shared → Prop} {s : Shared}
theorem compLoop_gen {elt target iter : Expr} {ifs : List Expr} {scope : Scope} {pos : Pos} {it acc : Value} {env : Env} (I : Nat → Shared → Prop) (Er : Value → Shared → Prop) (hEr : Er = notedBy (model prog w) A env fun e s' => R (.error e) s')
    (turn : ∀ n s, I n s → wpAny (model prog w) A (pyNext it) (fun r s₁ => match r with
      | none => R (.ok .next) s₁
      | some v => wpAny (model prog w) A (letOwnedTupleGo target it v) (fun _ s₀ => wpAny (model prog w) A (assign target env v) (fun _ s₂ =>
          wpAny (model prog w) A (forIn ifs true fun c r => if r = true then do let ok ← isTrue c env (eval c env); pure (ForInStep.yield ok) else pure (ForInStep.yield r)) (fun ok s₃ =>
            if ok = true then wpAny (model prog w) A (eval elt env) (fun x s₄ =>
              wpAny (model prog w) A (call (.builtin "list.append") [acc, x]) (fun _ s₅ => ∃ m, m < n ∧ I m s₅) Er s₄) Er s₃
            else ∃ m, m < n ∧ I m s₃) Er s₂) Er s₀) Er s₁) Er s)
    (n : Nat) (h : I n s) : codeAny (model prog w) A (.compLoop (.ListComp elt [⟨target, iter, ifs, 0⟩] scope pos) 0 it acc env) R s := by
  subst hEr
  refine codeAny_loop rfl I (fun n s hI => ?_) n h
  show wpAny _ A ((compTurn (.ListComp elt [⟨target, iter, ifs, 0⟩] scope pos) 0 it acc env).onRaise (fun x => do noteFrame x env; theTreesLotGoes x)) _ _ s
  refine wpAny_noted ?_
  rw [compTurn_list]
  refine wpAny_bind (wpAny_standAt (wpAny_bind (wpAny_mono (turn n s hI) (fun r s₁ h₁ => ?_) fun _ _ h' => h')))
  cases r with
  | none => exact wpAny_pure h₁
  | some v =>
    refine wpAny_bind (wpAny_mono h₁ (fun _ s₀ h₀ => ?_) fun _ _ h' => h')
    refine wpAny_bind (wpAny_mono h₀ (fun _ s₂ h₂ => wpAny_bind (wpAny_mono h₂ (fun ok s₃ h₃ => ?_) fun _ _ h' => h')) fun _ _ h' => h')
    cases ok with
    | false => exact wpAny_pure ⟨rfl, h₃⟩
    | true => exact wpAny_bind (wpAny_bind (wpAny_mono h₃ (fun x s₄ h₄ => wpAny_bind (wpAny_mono h₄ (fun _ s₅ h₅ => wpAny_pure (wpAny_pure ⟨rfl, h₅⟩)) fun _ _ h' => h')) fun _ _ h' => h'))
end
section
variable {w : World} {base : Heap} {g₀ : Array GenState} {o₀ : OsState}
variable {A : Around} {E : Value → Shared → Prop} {s s' s'' : Shared} {W W' : Wd} {H H' : St} {K : Frag} {n : Nat}
variable {look : Str → Option NameKind} {N : List Str} {env : Env} {r r' : Loc}
theorem reps1 {h : Heap} {x : V} {v : Value} (r : Rep cA h W x v) : Reps cA h W [x] [v] := ⟨r, trivial⟩
theorem Ext.narrow {P P' : Addr → Prop} (x : Ext P s W s' W') (h : ∀ b, P b → W b = .none) : Ext P' s W s' W' :=
  ⟨x.keep, x.mach, fun b o hw _ e => x.turn b o hw (fun q => by rw [h b q] at hw; cases hw) e, x.nofld, fun b o hw _ e => x.temp b o hw (fun q => by rw [h b q] at hw; cases hw) e⟩
theorem StOk.mine {I : Addr} (x : StOk cA prog w base g₀ o₀ s W H) (hI : W I = some .temp) (k : ∀ b o, b ≠ I → s.heap.get? b = some o → s'.heap.get? b = some o) (hl : ∃ o, s'.heap.get? I = some o)
    (hg : s'.gens = s.gens := by rfl) (ho : s'.os = s.os := by rfl) : StOk cA prog w base g₀ o₀ s' W H :=
  have ne : ∀ b, W b ≠ some .temp → b ≠ I := fun b hw q => hw (q ▸ hI)
  ⟨fun b o e => k b o (ne b (by rw [x.wbase b o e]; exact fun q => by cases q)) (x.keep b o e), x.wbase, fun b hw => by
      by_cases q : b = I
      · subst q; exact hl
      · obtain ⟨o, e⟩ := x.live b hw; exact ⟨o, k b o q e⟩,
    fun t a o e => (x.objs t a o e).keeps (fun b ob hw eb => ⟨k b ob (ne b (by rw [hw]; exact fun q => by cases q)) eb, hw⟩) fun b ob hw eb => ⟨k b ob (ne b (by rw [hw]; exact fun q => by cases q)) eb, hw⟩,
    hg.trans x.gens, ho.trans x.os⟩
theorem Ext.mine {I : Addr} (hI : W I = some .temp) (k : ∀ b o, b ≠ I → s.heap.get? b = some o → s'.heap.get? b = some o) : Ext (· = I) s W s' W :=
  have ne : ∀ b, W b ≠ some .temp → b ≠ I := fun b hw q => hw (q ▸ hI)
  ⟨fun b o hw e => ⟨k b o (ne b (by rw [hw]; exact fun q => by cases q)) e, hw⟩, fun _ h => h, fun b o hw _ e => ⟨o.slots, k b o (ne b (by rw [hw]; exact fun q => by cases q)) e⟩,
    fun b o hw e h => ⟨o, k b o (ne b (by rw [hw]; exact fun q => by cases q)) e, h⟩, fun b o hw hp e => ⟨k b o hp e, hw⟩⟩
theorem StOk.gone {I : Addr} (x : StOk cA prog w base g₀ o₀ s W H) (hI : W I = some .temp ∨ W I = some .mach) (k : ∀ b o, b ≠ I → s.heap.get? b = some o → s'.heap.get? b = some o)
    (hg : s'.gens = s.gens := by rfl) (ho : s'.os = s.os := by rfl) : StOk cA prog w base g₀ o₀ s' (W.drop (· = I)) H := by
  have y := x.drop (· = I) (fun b t q hw => by subst q; rcases hI with hI | hI <;> (rw [hI] at hw; cases hw))
  have ne : ∀ b, b ≠ I ∨ (W.drop (· = I)) b = .none := fun b => by
    by_cases q : b = I
    · exact .inr (Wd.drop_in _ q)
    · exact .inl q
  refine ⟨fun b o e => k b o (fun q => ?_) (y.keep b o e), y.wbase, fun b hw => ?_, fun t a o e => ?_, hg.trans y.gens, ho.trans y.os⟩
  · have := x.wbase b o e; rcases hI with hI | hI <;> (rw [q, hI] at this; cases this)
  · rcases ne b with q | q
    · obtain ⟨o, e⟩ := y.live b hw; exact ⟨o, k b o q e⟩
    · exact absurd q hw
  · refine (x.objs t a o e).keeps (fun b ob hw eb => ⟨k b ob (fun q => by rcases hI with hI | hI <;> (rw [q, hI] at hw; cases hw)) eb, Wd.drop_none _ hw⟩) fun b ob hw eb => ?_
    have q : b ≠ I := fun q => by rcases hI with hI | hI <;> (rw [q, hI] at hw; cases hw)
    exact ⟨k b ob q eb, (Wd.drop_out W (D := (· = I)) q).trans hw⟩
theorem namesOf_cons {t : Expr} {ts : List Expr} {ms : List Str} (h : namesOf (t :: ts) = some ms) : ∃ m ns p, t = .Name m p ∧ namesOf ts = some ns ∧ ms = m :: ns := by
  refine @bc _ fun k_ => ?_
  obtain ⟨m, h1, h⟩ := bind_is h
  obtain ⟨ns, h2, h⟩ := map_is h
  obtain ⟨p, e⟩ := asName_eq h1
  apply k_; clear k_
  exact ⟨m, ns, p, e, h2, h.symm⟩
theorem isVar_of {i : Nat} {m : Str} (h1 : N[i]? = some m) (h2 : look m = some .local) (h3 : (m == ("__debug__" : Str)) = false) : isVar look N i m = true := by
  unfold isVar
  rw [h1, h2, h3, beq_self_eq_true]
  rfl
theorem tgts_of {ts : List Expr} : ∀ {ms pre : List Str}, namesOf ts = some ms → (∀ m ∈ ms, look m = some .local ∧ (m == ("__debug__" : Str)) = false) → isTgts look (pre ++ ms) ((List.range ms.length).map (pre.length + ·)) ts = true := by
  induction ts with
  | nil => intro ms pre h _; cases h; rfl
  | cons t ts ih =>
    intro ms pre h hm
    refine @bc _ fun k_ => ?_
    obtain ⟨m, ns, p, e0_, h2, e1_⟩ := namesOf_cons h
    apply k_; clear k_
    clear h
    subst e0_ e1_
    simp only [List.length_cons, List.range_succ_eq_map, List.map_cons, List.map_map]
    show (isNm look (pre ++ m :: ns) (pre.length + 0) (.Name m p) && isTgts look (pre ++ m :: ns) _ ts) = true
    obtain ⟨a, b⟩ := hm m (by simp)
    have h1 : isNm look (pre ++ m :: ns) (pre.length + 0) (.Name m p) = true := by
      refine chk_of (a := m) rfl ?_
      rw [isVar_of (by simp) a b, decide_eq_true (by simp)]
      rfl
    have this := ih (ms := ns) (pre := pre ++ [m]) h2 (fun x hx => hm x (by simp [hx]))
    rw [List.append_assoc] at this
    have e : (List.range ns.length).map ((pre.length + ·) ∘ Nat.succ) = (List.range ns.length).map ((pre ++ [m]).length + ·) := by
      apply List.map_congr_left
      intro j _
      simp [Function.comp]
      (first | lia | omega)
    simp only [e, h1]
    exact this
theorem putAll_range : ∀ (vs : List V) (k : Nat) (r : Loc), k + vs.length = r.length → ∃ r', putAll r ((List.range vs.length).map (k + ·)) vs = some r' ∧ r' = r.take k ++ vs.map some := by
  intro x_
  induction x_ with
  | nil =>
    intro k r h
    exact ⟨r, rfl, by simp at h; simp [h]⟩
  | cons v vs ih =>
    intro k r h
    have hk : k < r.length := by simp at h; (first | lia | omega)
    obtain ⟨r', e, e'⟩ := ih (k + 1) (r.put k v) (by rw [Loc.put_length, ← h]; simp; (first | lia | omega))
    refine ⟨r', ?_, ?_⟩
    · simp only [List.length_cons, List.range_succ_eq_map, List.map_cons, List.map_map]
      show putAll (r.put (k + 0) v) _ vs = _
      simp only [← e]
      congr 1
      apply List.map_congr_left
      intro j _
      show k + (j + 1) = k + 1 + j
      (first | lia | omega)
    · rw [e']
      simp only [Loc.put]
      simp only [List.take_add_one, List.take_set_of_le (Nat.le_refl k), List.getElem?_set_self hk]
      simp
theorem bind_binds {rr r1 : Loc} {k : Nat} {x : V} (h : binds1 k x = some r1) (hl : rr.length = k) : bindT rr (List.range k) x = some r1 ∧ r1.length = k := by
  unfold binds1 at h
  split at h
  · rename_i hk
    subst hk
    have e_ := Option.some.inj h
    clear h
    subst e_
    refine ⟨?_, rfl⟩
    match rr, hl with
    | [a], _ => rfl
  · rename_i hk
    refine @bc _ fun k_ => ?_
    obtain ⟨vs, hvs, h⟩ := Option.bind_eq_some_iff.mp h
    apply k_; clear k_
    split at h
    · rename_i hlen
      have e_ := Option.some.inj h
      clear h
      subst e_
      subst hlen
      refine ⟨?_, by simp⟩
      have e : bindT rr (List.range vs.length) x = (unpackOf x).bind fun vs' => putAll rr (List.range vs.length) vs' := by
        unfold bindT
        split
        · rename_i i hi
          have := congrArg List.length hi
          simp at this
          exact absurd this hk
        · rfl
      rw [e, hvs]
      obtain ⟨r', e1, e2⟩ := putAll_range vs 0 rr (by simp [hl])
      have e3 : (List.range vs.length).map (0 + ·) = List.range vs.length := by
        conv => rhs; rw [← List.map_id (List.range vs.length)]
        apply List.map_congr_left
        intro j _
        simp
      rw [e3] at e1
      simp only [Option.bind_some, e1, e2]
      simp
    · exfalso
      cases h
end
end Mine
set_option backward.match.sparseCases false
namespace Mine
open PySem PySem.W PyProof.Rows PySem.SeqAt PySem.Calls
section
variable {w : World} {base : Heap} {g₀ : Array GenState} {o₀ : OsState}
variable {K : Frag} {n : Nat}
theorem OKQ.at {s s₁ : Shared} {W W₁ : Wd} {Q : V → St → Prop} {Qm : Value → Shared → Prop} (q : OKQ cA prog w base g₀ o₀ s W Q Qm) (x : Ext NP s W s₁ W₁) : OKQ cA prog w base g₀ o₀ s₁ W₁ Q Qm := fun y H' v s' W' e => q y H' v s' W' (x.trans e)
theorem OKX.at {s s₁ : Shared} {W W₁ : Wd} {X : St → Prop} {Em : Value → Shared → Prop} (q : OKX cA xA prog w base g₀ o₀ s W X Em) (x : Ext NP s W s₁ W₁) : OKX cA xA prog w base g₀ o₀ s₁ W₁ X Em := fun y s' W' H' e => q y s' W' H' (x.trans e)
def SndE (cA : Cls → Addr) (xA : Addr) (prog : Program) (w : World) (base : Heap) (g₀ : Array GenState) (o₀ : OsState) (n : Nat) (look : Str → Option NameKind) (N : List Str) (e : E) (x : Expr) : Prop :=
  ∀ {env : Env} {s : Shared} {W : Wd} {H : St} {r : Loc} {A : Around} {Q : V → St → Prop} {X : St → Prop} {Qm : Value → Shared → Prop} {Em : Value → Shared → Prop},
    StOk cA prog w base g₀ o₀ s W H → FrOk cA look N env s W r → Site A (2 * n + 1) s W → wpE (callAt defs n) X r e H Q → OKQ cA prog w base g₀ o₀ s W Q Qm → OKX cA xA prog w base g₀ o₀ s W X Em →
    wpAny (model prog w) A (eval x env) Qm Em s
def SE (cA : Cls → Addr) (xA : Addr) (prog : Program) (w : World) (base : Heap) (g₀ : Array GenState) (o₀ : OsState) (n : Nat) (e : E) : Prop :=
  ∀ {x : Expr} {look : Str → Option NameKind} {N : List Str}, isE look N e x = true → SndE cA xA prog w base g₀ o₀ n look N e x
def SndT (cA : Cls → Addr) (xA : Addr) (prog : Program) (w : World) (base : Heap) (g₀ : Array GenState) (o₀ : OsState) (n : Nat) (look : Str → Option NameKind) (N : List Str) (e : E) (x : Expr) : Prop :=
  ∀ {env : Env} {s : Shared} {W : Wd} {H : St} {r : Loc} {A : Around} {P : V → St → Prop} {Q : Bool → St → Prop} {X : St → Prop} {Qm : Bool → Shared → Prop} {Em : Value → Shared → Prop},
    StOk cA prog w base g₀ o₀ s W H → FrOk cA look N env s W r → Site A (2 * n + 1) s W → wpE (callAt defs n) X r e H P → (∀ v H, P v H → boolP v fun b => Q b H) →
    (∀ b H' s' W', Ext NP s W s' W' → StOk cA prog w base g₀ o₀ s' W' H' → Q b H' → Qm b s') → OKX cA xA prog w base g₀ o₀ s W X Em →
    wpAny (model prog w) A (isTrue x env (eval x env)) Qm Em s
def ST (cA : Cls → Addr) (xA : Addr) (prog : Program) (w : World) (base : Heap) (g₀ : Array GenState) (o₀ : OsState) (n : Nat) (e : E) : Prop :=
  ∀ {x : Expr} {look : Str → Option NameKind} {N : List Str}, isE look N e x = true → SndT cA xA prog w base g₀ o₀ n look N e x
inductive CompEnd (cA : Cls → Addr) (prog : Program) (w : World) (base : Heap) (g₀ : Array GenState) (o₀ : OsState) (s : Shared) (W : Wd) (H : St) (ys : List V) (D C : Addr) (s' : Shared) : Prop
  | mk (ne : D ≠ C) (n1 : s.heap.get? D = none) (n2 : s.heap.get? C = none) (W' : Wd) (vs : List Value) (m : Str → Option Value) (e : Ext NP s W s' W') (S : StOk cA prog w base g₀ o₀ s' W' H) (wD : W' D = some .temp) (wC : W' C = some .mach) (hl : s'.heap.PlainList D vs.toArray) (hlen : vs.length = ys.length) (rq : Reps cA s'.heap W' ys vs) (hm : s'.heap.Ns C m)
theorem scLook_cell {sc : Scope} (hcell : ∀ x ∈ sc.names, (x.2 != NameKind.cell) = true) {m : Str} (hm : scLook sc m = some .cell) : False := by
  have := hcell _ (mem_of_lookup (show sc.names.lookup m = some .cell from hm))
  simp at this
theorem repl_none {k i : Nat} {y : V} (e : (List.replicate k (none : Option V))[i]? = some (some y)) : False := by
  rw [List.getElem?_replicate] at e
  split at e <;> cases e
theorem comp_frame {look : Str → Option NameKind} {N ns : List Str} {sc : Scope} {env cenv : Env} {s s₃ : Shared} {W W₃ : Wd} {r : Loc} {C : Addr} {cl : List (Str × Addr)} {m : Str → Option Value} (hc : ({ newEnv sc C env.globals cl env.qual none .none (some env) builtinsNs with scope := relabel sc env } : Env) = cenv) (hkind : sc.kind = .function) (F : FrOk cA look N env s W r) (hap : apartS ns = true)
    (hcell : ∀ x ∈ sc.names, (x.2 != NameKind.cell) = true) (hns : s₃.heap.Ns C m) (wC : W₃ C = some .mach) : cenv.locals = C ∧ FrOk cA (scLook sc) ns cenv s₃ W₃ (List.replicate ns.length .none) := by
  subst hc
  exact ⟨rfl, hkind, F.globals, F.builtins, fun m k hk hf => lookup_relabel hf hk, wC, fun m hm => (scLook_cell hcell hm).elim, fun m m' c' hm => (scLook_cell hcell hm).elim, hap, _, hns, fun i m y e1 e2 => (repl_none e2).elim⟩
theorem comp_nocell {sc : Scope} {cenv : Env} {C : Addr} (hcell : ∀ x ∈ sc.names, (x.2 != NameKind.cell) = true) (cl1 : cenv.locals = C) {b : Addr} (hb : PEnv (scLook sc) cenv b) : b = C :=
  hb.elim (fun h => h.trans cl1) fun ⟨m, hm, _⟩ => (scLook_cell hcell hm).elim
theorem comp_test {sc : Scope} {ns : List Str} {cenv : Env} {H : St} {s5 : Shared} {W' : Wd} {r1 : Loc} {A : Around} {cond : E} {c : List Expr} {b : Bool} {Qb : Bool → Shared → Prop} {Er : Value → Shared → Prop} (hCond : ST cA xA prog w base g₀ o₀ n cond) (ckc : c = [] ∧ isTrueE cond = true ∨ ∃ y, c = [y] ∧ isE (scLook sc) ns cond y = true)
    (S5 : StOk cA prog w base g₀ o₀ s5 W' H) (F5 : FrOk cA (scLook sc) ns cenv s5 W' r1) (Si5 : Site A (2 * n + 1) s5 W') (hb : evP H r1 cond = some (.bool b)) (hQ : ∀ s6 W6, Ext NP s5 W' s6 W6 → StOk cA prog w base g₀ o₀ s6 W6 H → Qb b s6) :
    wpAny (model prog w) A (forIn c true fun c r => if r = true then do let ok ← isTrue c cenv (eval c cenv); pure (ForInStep.yield ok) else pure (ForInStep.yield r)) Qb Er s5 := by
  rcases ckc with ⟨rfl, hc⟩ | ⟨y, rfl, hc⟩
  · rw [isTrueE_eq hc] at hb
    cases hb
    exact wpAny_tests_nil (hQ s5 W' (Ext.refl ..) S5)
  · exact wpAny_tests_one (hCond (X := fun _ => False) (P := fun v H' => boolP v fun b' => b' = b ∧ H' = H) (Q := fun b' H' => b' = b ∧ H' = H) hc S5 F5 Si5 (evP_wp cond hb (boolP_iff.mpr ⟨b, rfl, rfl, rfl⟩)) (fun _ _ h => h) (fun b' H' s6 W6 e6 S6 q => q.1 ▸ hQ s6 W6 e6 (q.2 ▸ S6)) fun _ _ _ _ _ _ _ q => q.elim)
inductive CompInv (cA : Cls → Addr) (prog : Program) (w : World) (base : Heap) (g₀ : Array GenState) (o₀ : OsState) (s : Shared) (W : Wd) (H : St) (St : Nat → Heap → Prop) (look : Str → Option NameKind) (ns : List Str) (cenv : Env) (elt cond : E) (xs ys : List V) (I D C : Addr) (m : Nat) (s' : Shared) : Prop
  | mk (i : Nat) (W' : Wd) (rr : Loc) (done rest : List V) (vs : List Value) (hi : i ≤ xs.length) (hm : m = xs.length + 1 - i) (e : Ext NP s W s' W') (S : StOk cA prog w base g₀ o₀ s' W' H) (wI : W' I = some .temp) (wD : W' D = some .temp) (wC : W' C = some .mach) (st : St i s'.heap) (F : FrOk cA look ns cenv s' W' rr) (hrr : rr.length = ns.length)
    (hl : s'.heap.PlainList D vs.toArray) (rq : Reps cA s'.heap W' done vs) (hrun : compRun H elt cond ns.length (xs.drop i) = some rest) (hyd : ys = done ++ rest) : CompInv cA prog w base g₀ o₀ s W H St look ns cenv elt cond xs ys I D C m s'
theorem temp_on {P : Addr → Prop} {s s' : Shared} {W W' : Wd} {D : Addr} (x : Ext P s W s' W') (hw : W D = some .temp) (hp : ¬ P D) (h : ∃ o, s.heap.get? D = some o) : W' D = some .temp := h.elim fun o e => (x.temp D o hw hp e).2
theorem comp_loop {s s₃ : Shared} {W : Wd} {H : St} {A : Around} {elt cond : E} (hElt : SE cA xA prog w base g₀ o₀ n elt) (hCond : ST cA xA prog w base g₀ o₀ n cond)
    {ex it t : Expr} {ns : List Str} {c : List Expr} {sc : Scope} {pos : Pos} {xs ys : List V} {RR : Result → Shared → Prop} {St : Nat → Heap → Prop} {cenv : Env} {I D C : Addr}
    (hcell : ∀ x ∈ sc.names, (x.2 != NameKind.cell) = true) (ht : isTgt (scLook sc) ns (List.range ns.length) t = true) (cke : isE (scLook sc) ns elt ex = true) (ckc : c = [] ∧ isTrueE cond = true ∨ ∃ y, c = [y] ∧ isE (scLook sc) ns cond y = true)
    (S : StOk cA prog w base g₀ o₀ s W H) (Si : Site A (2 * n + 1) s W) (hn : ys.length ≤ lim) (STP : Steps cA prog w A I s W xs St) (hI : s.heap.get? I = none) (newD : s.heap.get? D = none) (newC : s.heap.get? C = none) (hID : I ≠ D) (hIC : I ≠ C) (hDC : D ≠ C) (cl1 : cenv.locals = C)
    (inv : CompInv cA prog w base g₀ o₀ s W H St (scLook sc) ns cenv elt cond xs ys I D C (xs.length + 1) s₃) (hRR : ∀ s', CompEnd cA prog w base g₀ o₀ s W H ys D C s' → RR (.ok .next) s') :
    codeAny (model prog w) A (.compLoop (.ListComp ex [⟨t, it, c, 0⟩] sc pos) 0 (.ref I) (.ref D) cenv) RR s₃ := by
  have hWI : W I = .none := S.free hI
  have hWD0 : W D = .none := S.free newD
  have hWC0 : W C = .none := S.free newC
  have nocell : ∀ b, PEnv (scLook sc) cenv b → b = C := fun b => comp_nocell hcell cl1
  refine compLoop_gen (CompInv cA prog w base g₀ o₀ s W H St (scLook sc) ns cenv elt cond xs ys I D C) _ rfl (fun m s' inv => ?_) _ inv
  refine @bc _ fun k_ => ?_
  obtain ⟨i, W', rr, done, rest, vs, hi, hm, e', S', wI', wD', wC', st', F', hrr, hl, rq, hrun, hyd⟩ := inv
  by_cases hlt : i < xs.length
  · have hxi : xs[i]? = some xs[i] := List.getElem?_eq_getElem hlt
    rw [List.drop_eq_getElem_cons hlt] at hrun
    obtain ⟨r1, hb1, hrun⟩ := bind_is hrun
    obtain ⟨b, hcond, hrun⟩ := bind_is hrun
    obtain ⟨bv, hcond, hbv⟩ := bind_is hcond
    rw [boolV_eq hbv] at hcond
    obtain ⟨hbind, hr1⟩ := bind_binds hb1 hrr
    have hdec : xs.length + 1 - (i + 1) < m := by (first | lia | omega)
    refine k_ (STP.item i xs[i] s' _ _ hxi st' fun u h' tk ru st'' kk => ?_)
    clear k_ hbv bv hm hb1
    have S4 : StOk cA prog w base g₀ o₀ { s' with heap := h', toks := tk } W' H := S'.mine (s' := { s' with heap := h', toks := tk }) wI' kk (STP.live _ _ st'')
    have x4 : Ext (· = I) s' W' { s' with heap := h', toks := tk } W' := Ext.mine wI' kk
    have e4 : Ext NP s W { s' with heap := h', toks := tk } W' := ((e'.weaken fun b q => q.elim).trans x4).narrow fun b q => by rw [q]; exact hWI
    refine STP.letGo i _ _ _ xs[i] _ _ st'' hxi ru ?_
    refine bind_snd S4 (F'.ext x4 fun b hb q => by rw [q] at hb; exact hIC (nocell _ hb)) Si.room.handled ht (by rw [hrr]; exact Nat.le_refl _) (e4.rep ru) hbind fun s5 x5 S5 F5 => ?_
    have x5' : Ext (· = C) { s' with heap := h', toks := tk } W' s5 W' := x5.weaken nocell
    have e5 : Ext NP s W s5 W' := ((e4.weaken fun b q => q.elim).trans x5').narrow fun b q => by rw [q]; exact hWC0
    have hl5 : s5.heap.PlainList D vs.toArray := (hl.at fun o e => kk _ _ hID.symm e).at fun o e => (x5'.temp D o wD' hDC e).1
    have st5 : St (i + 1) s5.heap := STP.frame _ _ _ st'' (fun o e => (x5'.temp I o wI' hIC e).1) fun b o hb e => (e5.keep b o hb e).1
    have rq5 : Reps cA s5.heap W' done vs := x5'.reps (x4.reps rq)
    have Si5 : Site A (2 * n + 1) s5 W' := Si.ext e5
    clear x4 e4 x5 x5' S4 F' e' S' st'' st' kk rq hl ru
    refine comp_test hCond ckc S5 F5 Si5 hcond fun s6 W6 e6 S6 => ?_
    cases b
    rotate_left
    · rw [if_pos rfl]
      refine @bc _ fun k_ => ?_
      obtain ⟨y, hy, hrun⟩ := bind_is hrun
      obtain ⟨rest', hrest, hre⟩ := map_is hrun
      apply k_; clear k_
      refine hElt (X := fun _ => False) (Q := fun z H' => z = y ∧ H' = H) cke S6 (F5.ext0 e6) (Si5.ext e6) (evP_wp elt hy ⟨rfl, rfl⟩) (fun z H' vz s7 W7 e7 S7 r7 q => ?_) fun _ _ _ _ _ _ _ q => q.elim
      rw [q.1] at r7
      rw [q.2] at S7
      have x7 := e6.trans e7
      have wD7 : W7 D = some .temp := temp_on x7 wD' (fun q => q) (hl5.elim fun _ e => ⟨_, e⟩)
      have wI7 : W7 I = some .temp := temp_on x7 wI' (fun q => q) (STP.live _ _ st5)
      have hlen : vs.length ≤ sizeLine := by
        have h1 := rq5.length
        rw [hyd] at hn
        simp only [List.length_append] at hn
        have : lim = sizeLine := rfl
        (first | lia | omega)
      refine wpAny_list_append_plain (hl5.at fun o e => (x7.temp D o wD' (fun q => q) e).1) (fun h8 hl8 hs8 => ?_) (by rw [List.size_toArray]; exact hlen)
      have k8 : ∀ b o, b ≠ D → s7.heap.get? b = some o → h8.get? b = some o := fun b o hb e => hs8.extBut b o hb e
      have x8 : Ext (· = D) s7 W7 { s7 with heap := h8 } W7 := Ext.mine wD7 k8
      have e8 : Ext NP s W { s7 with heap := h8 } W7 := (((e5.trans x7).weaken fun b q => q.elim).trans x8).narrow fun b q => by rw [q]; exact hWD0
      exact ⟨_, hdec, i + 1, W7, r1, done ++ [y], rest', vs ++ [vz], hlt, rfl, e8, S7.mine (s' := { s7 with heap := h8 }) wD7 k8 (hl8.elim fun _ e => ⟨_, e⟩), wI7, wD7, x7.mach _ wC', STP.frame _ _ _ st5 (fun o e => k8 _ _ hID (x7.temp I o wI' (fun q => q) e).1) (fun b o hb e => (e8.keep b o hb e).1), (F5.ext0 x7).ext x8 fun b hb q => by rw [q] at hb; exact hDC (nocell _ hb), hr1, by simpa using hl8, x8.reps ((x7.reps rq5).append cA (reps1 r7)), hrest, by rw [hyd, ← hre]; simp⟩
    · rw [if_neg (by decide)]
      exact ⟨_, hdec, i + 1, W6, r1, done, rest, vs, hlt, rfl, e5.trans e6, S6, temp_on e6 wI' (fun q => q) (STP.live _ _ st5), temp_on e6 wD' (fun q => q) (hl5.elim fun _ e => ⟨_, e⟩), e6.mach _ wC', STP.frame _ _ _ st5 (fun o e => (e6.temp I o wI' (fun q => q) e).1) fun b o hb e => ((e5.trans e6).keep b o hb e).1, F5.ext0 e6, hr1, hl5.at fun o e => (e6.temp D o wD' (fun q => q) e).1, e6.reps rq5, hrun, hyd⟩
  · have hi' : xs.length = i := by (first | lia | omega)
    rw [← hi', List.drop_length] at hrun
    rw [← hi'] at st'
    have hrun : rest = [] := (Option.some.inj hrun).symm
    rw [hrun, List.append_nil] at hyd
    rw [← hyd] at rq
    refine k_ (STP.done s' _ _ st' fun h' tk kk => hRR _ ?_)
    clear k_
    have dn : ∀ b, b ≠ I → (W'.drop (· = I)) b = W' b := fun b q => Wd.drop_out W' (D := (· = I)) q
    have e4 : Ext NP s W { s' with heap := h', toks := tk } (W'.drop (· = I)) :=
      (((e'.weaken (P' := (· = I)) fun b q => q.elim).trans (Ext.mine (s' := { s' with heap := h', toks := tk }) wI' kk)).narrow fun b q => by rw [q]; exact hWI).drop fun b q => by rw [q]; exact ⟨hWI, hI⟩
    exact F'.vars.elim fun mm q => ⟨hDC, newD, newC, _, vs, mm, e4, S'.gone (s' := { s' with heap := h', toks := tk }) (.inl wI') kk, (dn D hID.symm).trans wD', (dn C hIC.symm).trans wC', hl.at fun o e => kk _ _ hID.symm e, rq.length.symm, Reps.keeps (fun b o hb e => ⟨kk b o (fun q => by rw [q, wI'] at hb; cases hb) e, Wd.drop_none _ hb⟩) _ rq, (cl1 ▸ q.1).at' fun o e => kk _ _ hIC.symm e⟩
theorem ne_of_get {h : Heap} {a b : Addr} (x : ∃ o, h.get? a = some o) (y : h.get? b = none) : a ≠ b := fun q => by
  subst q
  obtain ⟨o, e⟩ := x
  rw [y] at e
  cases e
theorem none_of {h h' : Heap} {b : Addr} (k : ∀ b o, h.get? b = some o → h'.get? b = some o) (y : h'.get? b = none) : h.get? b = none := by
  cases q : h.get? b with
  | none => rfl
  | some o => have := k _ _ q; rw [y] at this; cases this
theorem ns_live {h : Heap} {a : Addr} {m : Str → Option Value} (x : h.Ns a m) : ∃ o, h.get? a = some o := let ⟨o, _, _, e, _⟩ := x; ⟨o, e⟩
theorem comp_after {look : Str → Option NameKind} {N : List Str} {env : Env} {s : Shared} {W : Wd} {H : St} {r : Loc} {A : Around} {elt cond : E} (hElt : SE cA xA prog w base g₀ o₀ n elt) (hCond : ST cA xA prog w base g₀ o₀ n cond)
    {ex it t : Expr} {ns : List Str} {c : List Expr} {sc : Scope} {pos : Pos} {cl : List (Str × Addr)} {xs ys : List V} {RR : Result → Shared → Prop} (hkind : sc.kind = .function) (hap : apartS ns = true) (hcell : ∀ x ∈ sc.names, (x.2 != NameKind.cell) = true)
    (ht : isTgt (scLook sc) ns (List.range ns.length) t = true) (cke : isE (scLook sc) ns elt ex = true) (ckc : c = [] ∧ isTrueE cond = true ∨ ∃ y, c = [y] ∧ isE (scLook sc) ns cond y = true)
    (S : StOk cA prog w base g₀ o₀ s W H) (F : FrOk cA look N env s W r) (Si : Site A (2 * n + 1) s W) (hys : compRun H elt cond ns.length xs = some ys) (hn : ys.length ≤ lim)
    {I D C : Addr} {s₁ : Shared} {St : Nat → Heap → Prop} {H2 h₁ : Heap} {m : Str → Option Value} {tk : Nat} {nn : Nat} (STP : Steps cA prog w A I s W xs St) (st₀ : St 0 s₁.heap) (hI : s.heap.get? I = none) (k₁ : ∀ b o, s.heap.get? b = some o → s₁.heap.get? b = some o) (hDf : s₁.heap.get? D = none) (kD : ∀ b o, s₁.heap.get? b = some o → H2.get? b = some o)
    (hDo : H2.get? D = some { cls := .type "list", data := .seq ([] : List Value).toArray nn }) (S₂ : StOk cA prog w base g₀ o₀ { s₁ with heap := H2 } ((W.put I .temp).put D .temp) H) (E₂ : Ext NP s W { s₁ with heap := H2 } ((W.put I .temp).put D .temp)) (hCf : H2.get? C = none) (kC : ∀ b o, H2.get? b = some o → h₁.get? b = some o) (hns₁ : h₁.Ns C m)
    (hRR : ∀ s', CompEnd cA prog w base g₀ o₀ s W H ys D C s' → RR (.ok .next) s') :
    codeAny (model prog w) A (.compStart (.ListComp ex [⟨t, it, c, 0⟩] sc pos) 0 (.ref I) (.ref D) { newEnv sc C env.globals cl env.qual none .none (some env) builtinsNs with scope := relabel sc env }) RR { s₁ with heap := h₁, toks := tk } := by
  have hDC : D ≠ C := ne_of_get ⟨_, hDo⟩ hCf
  have hIo : ∃ o, s₁.heap.get? I = some o := STP.live 0 _ st₀
  have hID : I ≠ D := ne_of_get hIo hDf
  have hIC : I ≠ C := ne_of_get (hIo.elim fun _ e => ⟨_, kD _ _ e⟩) hCf
  have wC : (((W.put I .temp).put D .temp).put C .mach) C = some .mach := Wd.put_self ..
  have S₃ : StOk cA prog w base g₀ o₀ { s₁ with heap := h₁, toks := tk } (((W.put I .temp).put D .temp).put C .mach) H := S₂.owned (s' := { s₁ with heap := h₁, toks := tk }) hCf kC (ns_live hns₁)
  have E₃ := E₂.trans (Ext.owned (P := NP) (s' := { s₁ with heap := h₁, toks := tk }) (ow := .mach) hCf (S₂.free hCf) kC)
  have st₃ : St 0 h₁ := STP.frame 0 _ _ st₀ (fun o e => kC _ _ (kD _ _ e)) (fun b o hb e => kC _ _ (kD _ _ (k₁ _ _ e)))
  generalize hcenv : ({ newEnv sc C env.globals cl env.qual none .none (some env) builtinsNs with scope := relabel sc env } : Env) = cenv
  have F₃ := comp_frame (W₃ := ((W.put I .temp).put D .temp).put C .mach) (s₃ := { s₁ with heap := h₁, toks := tk }) hcenv hkind F hap hcell hns₁ wC
  have loop := comp_loop (it := it) (pos := pos) (RR := RR) hElt hCond hcell ht cke ckc S Si hn STP hI (none_of k₁ hDf) (none_of (fun b o e => kD _ _ (k₁ _ _ e)) hCf) hID hIC hDC F₃.1
    ⟨0, _, _, [], ys, [], Nat.zero_le _, rfl, E₃, S₃, by rw [Wd.put_ne _ _ hIC, Wd.put_ne _ _ hID, Wd.put_self], by rw [Wd.put_ne _ _ hDC, Wd.put_self], wC, st₃, F₃.2, by simp, ⟨_, kC _ _ hDo⟩, trivial, hys, rfl⟩ hRR
  exact codeAny_compStart_list loop (STP.self 0 _ _ _ st₃ loop)
theorem comp_core {look : Str → Option NameKind} {N : List Str} {env : Env} {s : Shared} {W : Wd} {H : St} {r : Loc} {A : Around} {elt cond : E} (hElt : SE cA xA prog w base g₀ o₀ n elt) (hCond : ST cA xA prog w base g₀ o₀ n cond)
    {ex it t : Expr} {ns : List Str} {c : List Expr} {sc : Scope} {pos : Pos} {cl : List (Str × Addr)} {x : V} {v : Value} {xs ys : List V} {E : Value → Shared → Prop} {RR : Value → Addr → Result → Shared → Prop}
    (hkind : sc.kind = .function) (hap : apartS ns = true) (hcell : ∀ x ∈ sc.names, (x.2 != NameKind.cell) = true) (ht : isTgt (scLook sc) ns (List.range ns.length) t = true) (cke : isE (scLook sc) ns elt ex = true) (ckc : c = [] ∧ isTrueE cond = true ∨ ∃ y, c = [y] ∧ isE (scLook sc) ns cond y = true)
    (S : StOk cA prog w base g₀ o₀ s W H) (F : FrOk cA look N env s W r) (Si : Site A (2 * n + 1) s W) (rv : Rep cA s.heap W x v) (hx : iterOf x = some xs) (hys : compRun H elt cond ns.length xs = some ys) (hn : ys.length ≤ lim)
    (hRR : ∀ D C s', CompEnd cA prog w base g₀ o₀ s W H ys D C s' → RR (.ref D) C (.ok .next) s') :
    wpAny (model prog w) A (pyIter v) (fun itv s₂ => wpAny (model prog w) A (newList []) (fun acc s₃ => wpAny (model prog w) A (newFunctionEnv sc env.globals cl [] env.qual none .none (some env)) (fun cenv s₄ =>
      codeAny (model prog w) A (.compStart (.ListComp ex [⟨t, it, c, 0⟩] sc pos) 0 itv acc { cenv with scope := relabel sc env }) (RR acc cenv.locals) s₄) E s₃) E s₂) E s := by
  refine iter_snd S Si.room.handled rv hx fun I s₁ St hI k₁ g₁ o₁ STP st₀ => ?_
  have hWI : W I = .none := S.free hI
  have S₁ : StOk cA prog w base g₀ o₀ s₁ (W.put I .temp) H := S.owned hI k₁ (STP.live 0 _ st₀) g₁ o₁
  have E₁ : Ext NP s W s₁ (W.put I .temp) := Ext.owned hI hWI k₁
  refine wpAny_newObj_type ?_ (Nat.zero_le _)
  have hDf : s₁.heap.get? s₁.heap.objs.size = none := size_free _
  have kD : ∀ b o, s₁.heap.get? b = some o → (s₁.heap.push { cls := .type "list", data := .seq ([] : List Value).toArray }).get? b = some o := fun _ _ e => Heap.get?_push_of_some _ e
  have hDo : (s₁.heap.push { cls := .type "list", data := .seq ([] : List Value).toArray }).get? s₁.heap.objs.size = some { cls := .type "list", data := .seq ([] : List Value).toArray } := Heap.get?_push_size _ rfl
  revert hDf kD hDo
  generalize s₁.heap.push { cls := .type "list", data := .seq ([] : List Value).toArray } = H2
  generalize s₁.heap.objs.size = D
  intro hDf kD hDo
  have S₂ : StOk cA prog w base g₀ o₀ { s₁ with heap := H2 } ((W.put I .temp).put D .temp) H := S₁.owned (s' := { s₁ with heap := H2 }) hDf kD ⟨_, hDo⟩
  have E₂ := E₁.trans (Ext.owned (P := NP) (s' := { s₁ with heap := H2 }) (ow := .temp) hDf (S₁.free hDf) kD)
  refine wpAny_newFunctionEnv (fun y hy q => ?_) (by intro y hy; simp at hy) (fun h₁ hns₁ hsb₁ => ?_) hkind
  · have := hcell y hy
    rw [q] at this
    simp at this
  dsimp only at hns₁ hsb₁
  have hCf : H2.get? H2.objs.size = none := size_free _
  have kC : ∀ b o, H2.get? b = some o → h₁.get? b = some o := fun b o e => hsb₁.extBut b o (fun q => by rw [q, hCf] at e; cases e) (Heap.get?_push_of_some _ e)
  refine comp_after (s₁ := s₁) hElt hCond hkind hap hcell ht cke ckc S F Si hys hn STP st₀ hI k₁ hDf kD hDo S₂ E₂ hCf kC hns₁ fun s' => hRR _ _ s'
theorem folded_of {it : Expr} {env : Env} {x : Value} (h : notSet it = true) : foldedSetIterable it env x = pure x := by
  cases it <;> first | rfl | cases h
theorem CompEnd.got {s : Shared} {W : Wd} {H : St} {ys : List V} {D C : Addr} {s' : Shared} (S : StOk cA prog w base g₀ o₀ s W H) (e : CompEnd cA prog w base g₀ o₀ s W H ys D C s') {h' : Heap} (hs : Heap.SameBut C s'.heap h') :
    Got cA prog w base g₀ o₀ s W H ys (.ref D) { s' with heap := h' } := by
  refine @bc _ fun k_ => ?_
  obtain ⟨ne, n1, n2, W', vs, m, e1, S1, wD, wC, hl, hlen, rq, hm⟩ := e
  apply k_; clear k_
  have kk : ∀ b o, b ≠ C → s'.heap.get? b = some o → h'.get? b = some o := fun b o hb q => hs.extBut b o hb q
  have S2 : StOk cA prog w base g₀ o₀ { s' with heap := h' } (W'.drop (· = C)) H := S1.gone (s' := { s' with heap := h' }) (.inr wC) kk
  have hWC : W C = .none := S.free n2
  have nn : ∀ b, b ≠ C → (W'.drop (· = C)) b = W' b := fun b q => Wd.drop_out W' (D := (· = C)) q
  have bn : ∀ b, W b ≠ .none → b ≠ C := fun b q z => q (z ▸ hWC)
  refine ⟨D, vs, W'.drop (· = C), rfl, n1, ⟨fun b o hw e => ?_, fun b hw => ?_, fun b o hw hp e => ?_, fun b o hw e h => ?_, fun b o hw hp e => ?_⟩, S2, (nn D ne).trans wD, hl.at fun o q => kk _ _ ne q, hlen, fun _ => Reps.keeps (fun b o hb q => ⟨kk b o (fun z => by rw [z, wC] at hb; cases hb) q, Wd.drop_none _ hb⟩) _ rq⟩
  · have q : b ≠ C := fun z => by rw [z, n2] at e; cases e
    exact ⟨kk b o q (e1.keep b o hw e).1, (nn b q).trans (e1.keep b o hw e).2⟩
  · have q := bn b (by rw [hw]; exact fun z => by cases z)
    exact (nn b q).trans (e1.mach b hw)
  · have q := bn b (by rw [hw]; exact fun z => by cases z)
    obtain ⟨sl, z⟩ := e1.turn b o hw hp e
    exact ⟨sl, kk b _ q z⟩
  · have q := bn b (by rw [hw]; exact fun z => by cases z)
    obtain ⟨o', z, z'⟩ := e1.nofld b o hw e h
    exact ⟨o', kk b _ q z, z'⟩
  · have q := bn b (by rw [hw]; exact fun z => by cases z)
    exact ⟨kk b o q (e1.temp b o hw hp e).1, (nn b q).trans (e1.temp b o hw hp e).2⟩
inductive CompOk (look : Str → Option NameKind) (N : List Str) (elt cond src : E) (k : Nat) (x : Expr) : Prop
  | mk (ex : Expr) (ns : List Str) (it : Expr) (c : Option Expr) (sc : Scope) (h : IsComp x (ex, ns, it, c, sc)) (h1 : compScope look sc ns = true) (h2 : ns.length = k) (h3 : isE look N src it = true) (h4 : notSet it = true) (h5 : isE (scLook sc) ns elt ex = true) (h6 : (match (generalizing := false) c with | some y => isE (scLook sc) ns cond y | none => isTrueE cond) = true)
theorem isComp_ok {look : Str → Option NameKind} {N : List Str} {elt cond src : E} {k : Nat} {x : Expr} (ck : isL look N (.comp elt cond k src) x = true) : CompOk look N elt cond src k x := by
  refine @bc _ fun k_ => ?_
  obtain ⟨c, h, ck⟩ := chk_ok ck
  obtain ⟨h1, ck⟩ := and_ok ck
  obtain ⟨h2, ck⟩ := and_ok ck
  obtain ⟨h3, ck⟩ := and_ok ck
  obtain ⟨h4, ck⟩ := and_ok ck
  apply k_; clear k_
  exact ⟨c.1, c.2.1, c.2.2.1, c.2.2.2.1, c.2.2.2.2, h, h1, dec_ok h2, h3, h4, (and_ok ck).1, (and_ok ck).2⟩
theorem comp_snd {look : Str → Option NameKind} {N : List Str} {env : Env} {s : Shared} {W : Wd} {H : St} {r : Loc} {A : Around} {elt cond src : E} (hSrc : SE cA xA prog w base g₀ o₀ n src) (hElt : SE cA xA prog w base g₀ o₀ n elt) (hCond : ST cA xA prog w base g₀ o₀ n cond)
    {k : Nat} {x : Expr} {Q : List V → St → Prop} {X : St → Prop} {Em : Value → Shared → Prop} (use : Option (Value → Sem Unit)) {pos' : Expr → Pos → Pos} {Qm : Value → Shared → Prop}
    (ck : isL look N (.comp elt cond k src) x = true) (S : StOk cA prog w base g₀ o₀ s W H) (F : FrOk cA look N env s W r) (Si : Site A (2 * n + 1) s W) (h : wpL (callAt defs n) X r (.comp elt cond k src) H (fun xs H => xs.length ≤ lim ∧ Q xs H)) (qx : OKX cA xA prog w base g₀ o₀ s W X Em)
    (q : ∀ ys H₁ s₁ W₁ D C s', Ext NP s W s₁ W₁ → StOk cA prog w base g₀ o₀ s₁ W₁ H₁ → CompEnd cA prog w base g₀ o₀ s₁ W₁ H₁ ys D C s' → ys.length ≤ lim → Q ys H₁ → compPost (model prog w) A Em use Qm (.ref D) C (.ok .next) s') :
    ∃ ex t it c sc pos, x = .ListComp ex [⟨t, it, c, 0⟩] sc pos ∧ ∀ p, wpAny (model prog w) A (comprehension x sc env p (newList []) false (eval it env) use) Qm Em s := by
  refine @bc _ fun k_ => ?_
  obtain ⟨ex, ns, it, c, sc, ⟨t, pos, e0_, ht⟩, hsc, e1_, cks, hset, cke, ckc⟩ := isComp_ok ck
  apply k_; clear k_ ck
  subst e0_ e1_
  have hsc' := hsc
  simp only [compScope, Bool.and_eq_true, List.all_eq_true, beq_iff_eq, Bool.not_eq_true'] at hsc'
  refine @bc _ fun k_ => ?_
  obtain ⟨⟨⟨⟨hfree, hkind⟩, hloc⟩, hap⟩, hcell⟩ := hsc'
  apply k_; clear k_
  have tgt : isTgt (scLook sc) ns (List.range ns.length) t = true := by
    rcases ht with ⟨m, q, rfl, rfl⟩ | ⟨ts, kk, q, rfl, hts, hne⟩
    · obtain ⟨a, b⟩ := hloc m (by simp)
      show isNm (scLook sc) [m] 0 (.Name m q) = true
      refine chk_of (a := m) rfl ?_
      rw [isVar_of rfl a b]; rfl
    · have := tgts_of (look := scLook sc) (pre := []) hts hloc
      have e3 : (List.range ns.length).map (([] : List Str).length + ·) = List.range ns.length := by
        conv => rhs; rw [← List.map_id (List.range ns.length)]
        apply List.map_congr_left
        intro j _
        simp
      rw [e3, List.nil_append] at this
      unfold isTgt
      split
      · rename_i i hi
        have := congrArg List.length i.2
        simp at this
        exact absurd this hne
      · exact chk_of (a := ts) rfl this
  obtain ⟨cl, hcl⟩ := closure_is (scope := sc) (env := env) fun y hy hf => by
    have := hfree y hy
    rw [hf] at this
    have hc : look y.1 = some .cell := by simpa using this
    refine @bc _ fun k_ => ?_
    obtain ⟨c', _, e, _⟩ := F.cells _ hc
    apply k_; clear k_
    exact ⟨c', e⟩
  refine ⟨ex, t, it, c.toList, sc, pos, rfl, fun p => ?_⟩
  refine wpAny_comprehension_free (g := ⟨t, it, c.toList, 0⟩) (gs := []) rfl (fun _ => folded_of hset) hcl hkind (fun y hy hl => ?_) ?_
  · have := hcell y hy
    rw [hl] at this
    simpa using this
  · refine hSrc cks S F Si h (fun y₁ H₁ v₁ s₁ W₁ e₁ S₁ r₁ h₁ => ?_) qx
    refine @bc _ fun k_ => ?_
    obtain ⟨xs, hxs, h₁⟩ := optP_iff.mp h₁
    obtain ⟨ys, hys, h₁⟩ := optP_iff.mp h₁
    apply k_; clear k_
    refine comp_core hElt hCond hkind hap (fun x hx => (hcell x hx).1) tgt cke ?_ S₁ (F.ext0 e₁) (Si.ext e₁) r₁ hxs hys h₁.1 fun D C s' hend => q ys H₁ s₁ W₁ D C s' e₁ S₁ hend h₁.1 h₁.2
    cases c with
    | none => exact .inl ⟨rfl, ckc⟩
    | some y => exact .inr ⟨y, rfl, ckc⟩
end
end Mine
set_option backward.match.sparseCases false
namespace Mine
open PySem PySem.W PyProof.Rows PySem.SeqAt PySem.Calls
section
variable {w : World} {base : Heap} {g₀ : Array GenState} {o₀ : OsState}
variable {K : Frag} {n : Nat}
theorem OKQ.ok1 {s : Shared} {W : Wd} {H : St} {Q : V → St → Prop} {Qm : Value → Shared → Prop} {z : V} (q : OKQ cA prog w base g₀ o₀ s W Q Qm) (h : Q z H) (v : Value) (s' : Shared) (o : Ok1 cA prog w base g₀ o₀ s W H z v s') : Qm v s' := q _ _ _ _ _ o.1 o.2.1 o.2.2 h
theorem OKQ.here {s : Shared} {W : Wd} {H : St} {Q : V → St → Prop} {Qm : Value → Shared → Prop} {z : V} {v : Value} {t : Nat} (q : OKQ cA prog w base g₀ o₀ s W Q Qm) (S : StOk cA prog w base g₀ o₀ s W H) (r : Rep cA s.heap W z v) (h : Q z H) : Qm v { s with toks := t } :=
  q.ok1 h _ _ (Ok1.toks S r)
inductive OptIs {α : Type} (o : Option α) (Q : α → Prop) : Prop | mk (x : α) (e : o = some x) (h : Q x)
theorem optB {α : Type} {o : Option α} {Q : α → Prop} (h : optP o Q) : OptIs o Q := by
  cases o with
  | none => exact h.elim
  | some x => exact ⟨x, rfl, h⟩
theorem rep_bool {s : Shared} {W : Wd} {b : Bool} {v : Value} (r : Rep cA s.heap W (.bool b) v) : v = .bool b := r
theorem nonref_keep {M : Model} {f : Value} (hf : ∀ a, f ≠ .ref a) (h : Heap) (_ : True) : ∃ k, (k = Keeper.frame ∨ k = Keeper.machine ∨ k = Keeper.boundFrame) ∧ Looks M h (keeperOf f) k := by
  refine ⟨.machine, .inr (.inl rfl), ?_⟩
  cases f <;> first | exact .now | exact absurd rfl (hf _)
theorem bi_nonref (b : Bi) : ∀ a, b.val ≠ .ref a := by intro a; cases b <;> exact fun q => by cases q
structure Fix (K : Frag) (cA : Cls → Addr) (fA : Fn → Addr) (xA : Addr) (prog : Program) (w : World) (base : Heap) (g₀ : Array GenState) (o₀ : OsState) (n : Nat) : Prop where
  KO : KOk K cA fA base
  CS : CallSnd cA fA xA prog w base g₀ o₀ n
theorem sysApart (FX : Fix K cA fA xA prog w base g₀ o₀ n) {s : Shared} {W : Wd} {H : St} (S : StOk cA prog w base g₀ o₀ s W H) : (s.heap.objs.size == sysModules) = false := by
  refine @bc _ fun k_ => ?_
  obtain ⟨mg, mb, g1, g2, ⟨mc, hn, _⟩, g4⟩ := FX.KO.top
  apply k_; clear k_
  have := (hn.keeps S.keep).lt
  have hc : sysModules < cStatics := by decide
  rw [beq_eq_false_iff_ne]
  exact Nat.ne_of_gt (Nat.lt_trans hc this)
theorem join_is {α : Type} {o : Option (Option α)} {y : α} (h : o.join = some y) : o = some (some y) := by
  cases o with
  | none => cases h
  | some o => cases o with
    | none => cases h
    | some o => cases h; rfl
theorem sE_bad : SE cA xA prog w base g₀ o₀ n .bad := by
  intro x look N ck env s W H r A Q X Qm Em S F Si h q qx
  exact h.elim
theorem sT_bad : ST cA xA prog w base g₀ o₀ n .bad := by
  intro x look N ck env s W H r A P Q X Qm Em S F Si h hP q qx
  exact h.elim
theorem sE_v (i : Nat) : SE cA xA prog w base g₀ o₀ n (.v i) := by
  intro x look N ck
  refine @bc _ fun k_ => ?_
  obtain ⟨nm, ⟨p, e0_⟩, c⟩ := chk_ok ck
  apply k_; clear k_ ck
  subst e0_
  intro env s W H r A Q X Qm Em S F Si h q qx
  refine @bc _ fun k_ => ?_
  obtain ⟨y, hy, hq⟩ := optB (show optP (r[i]?).join _ from h)
  obtain ⟨g1, g2, g3⟩ := isVar_eq c
  apply k_; clear k_
  exact ld_var F g1 (join_is hy) g3 fun v rv => q _ _ _ _ _ (Ext.refl ..) S rv hq
theorem sE_none : SE cA xA prog w base g₀ o₀ n .none := by
  intro x look N ck
  obtain ⟨k, p, rfl⟩ := isC_eq ck
  intro env s W H r A Q X Qm Em S F Si h q qx
  exact wpAny_Constant_none (q.here S (z := .none) rfl h)
theorem sE_bool (b : Bool) : SE cA xA prog w base g₀ o₀ n (.bool b) := by
  intro x look N ck
  obtain ⟨k, p, rfl⟩ := isC_eq ck
  intro env s W H r A Q X Qm Em S F Si h q qx
  exact wpAny_Constant_bool (q.here S (z := .bool b) rfl h)
theorem sE_int (i : Int) : SE cA xA prog w base g₀ o₀ n (.int i) := by
  intro x look N ck env s W H r A Q X Qm Em S F Si h q qx
  exact int_of (asInt_ok ck) fun t t' => q.here S (z := .int i) ⟨_, rfl⟩ h
theorem sE_word (wd : Word) : SE cA xA prog w base g₀ o₀ n (.word wd) := by
  intro x look N ck
  obtain ⟨k, p, rfl⟩ := isC_eq ck
  intro env s W H r A Q X Qm Em S F Si h q qx
  exact wpAny_Constant_str (q.here S (z := .str wd) ⟨_, rfl⟩ h)
theorem sE_glob (FX : Fix K cA fA xA prog w base g₀ o₀ n) (g : Glob) : SE cA xA prog w base g₀ o₀ n (.glob g) := by
  intro x look N ck
  refine @bc _ fun k_ => ?_
  obtain ⟨nm, ⟨p, e0_⟩, c⟩ := chk_ok ck
  apply k_; clear k_ ck
  subst e0_
  obtain ⟨rfl, hl, _⟩ := isGl_eq c
  intro env s W H r A Q X Qm Em S F Si h q qx
  exact ld_globV FX.KO S F hl fun v rv => q _ _ _ _ _ (Ext.refl ..) S rv h
theorem sE_edict (FX : Fix K cA fA xA prog w base g₀ o₀ n) : SE cA xA prog w base g₀ o₀ n .edict := by
  intro x look N ck
  obtain ⟨p, rfl⟩ := some_ok ck
  intro env s W H r A Q X Qm Em S F Si h q qx
  refine wpAny_Dict_empty (q.ok1 (z := .edict) h _ _ ?_)
  exact ⟨Ext.of_keeps fun _ _ e => Heap.get?_push_of_some _ e, S.grow fun _ _ e => Heap.get?_push_of_some _ e, _, rfl, S.fresh, sysApart FX S, Heap.get?_push_size _ rfl⟩
theorem sE_bi1 (FX : Fix K cA fA xA prog w base g₀ o₀ n) {o : Op1} {a : E} {b : Bi} (hb : o.bi = some b) (ha : SE cA xA prog w base g₀ o₀ n a) (hi : ∀ {look N x}, isE look N (.op1 o a) x = true → call1 look b.name (fun y => isE look N a y) x = true) : SE cA xA prog w base g₀ o₀ n (.op1 o a) := by
  intro x look N ck
  obtain ⟨nm, y, p, p', e0_, c1, c2, c3⟩ := call1_eq (hi ck)
  clear ck
  subst e0_
  obtain ⟨rfl, hl, _⟩ := isGl_eq c1
  intro env s W H r A Q X Qm Em S F Si h q qx
  refine wpAny_Call_Name_kw (ld_bi FX.KO S F hl ?_)
  refine cw_of (fun _ => True) (by simp [c2]) (nonref_keep (bi_nonref b)) ?_
  refine wpAny_items_cons (ha c3 S F Si (show wpE (callAt defs n) X r a H fun x H => optP (ev1 H o x) fun z => Q z H from h) (fun y₁ H₁ v s₁ W₁ e₁ S₁ r₁ h₁ => wpAny_items_nil ⟨trivial, ?_⟩) qx) (starEach_cons c2)
  refine @bc _ fun k_ => ?_
  obtain ⟨z, hz, hq⟩ := optB h₁
  apply k_; clear k_
  exact wpAny_mono (bi1 S₁ (Si.room.le (Nat.zero_le _)) hb r₁ hz) (fun v' s' o => (q.at e₁).ok1 hq _ _ o) fun _ _ x => x
theorem sE_neg {a : E} (ha : SE cA xA prog w base g₀ o₀ n a) : SE cA xA prog w base g₀ o₀ n (.op1 .neg a) := by
  intro x look N ck
  refine @bc _ fun k_ => ?_
  obtain ⟨⟨u, y⟩, ⟨p, e0_⟩, c⟩ := chk_ok ck
  apply k_; clear k_ ck
  subst e0_
  obtain ⟨c1, c2⟩ := and_ok c
  have c1 := some_ok c1
  dsimp only at c1 c2
  subst c1
  intro env s W H r A Q X Qm Em S F Si h q qx
  refine wpAny_UnaryOp (ha c2 S F Si (show wpE (callAt defs n) X r a H fun x H => optP (ev1 H .neg x) fun z => Q z H from h) (fun y₁ H₁ v s₁ W₁ e₁ S₁ r₁ h₁ => ?_) qx)
  refine @bc _ fun k_ => ?_
  obtain ⟨z, hz, hq⟩ := optB h₁
  obtain ⟨i, hi, e0_⟩ := map_is hz
  apply k_; clear k_
  subst e0_
  rw [intV_eq hi] at r₁
  exact wpAny_mono (un_neg S₁ r₁) (fun v' s' o => (q.at e₁).ok1 hq _ _ o) fun _ _ x => x
theorem sE_not_ {a : E} (ha : SE cA xA prog w base g₀ o₀ n a) : SE cA xA prog w base g₀ o₀ n (.op1 .not_ a) := by
  intro x look N ck
  refine @bc _ fun k_ => ?_
  obtain ⟨⟨u, y⟩, ⟨p, e0_⟩, c⟩ := chk_ok ck
  apply k_; clear k_ ck
  subst e0_
  obtain ⟨c1, c2⟩ := and_ok c
  have c1 := some_ok c1
  dsimp only at c1 c2
  subst c1
  intro env s W H r A Q X Qm Em S F Si h q qx
  refine wpAny_UnaryOp (ha c2 S F Si (show wpE (callAt defs n) X r a H fun x H => optP (ev1 H .not_ x) fun z => Q z H from h) (fun y₁ H₁ v s₁ W₁ e₁ S₁ r₁ h₁ => ?_) qx)
  refine @bc _ fun k_ => ?_
  obtain ⟨z, hz, hq⟩ := optB h₁
  obtain ⟨i, hi, e0_⟩ := map_is hz
  apply k_; clear k_
  subst e0_
  rw [boolV_eq hi] at r₁
  exact wpAny_mono (un_not S₁ r₁) (fun v' s' o => (q.at e₁).ok1 hq _ _ o) fun _ _ x => x
theorem sE_isNone {a : E} (ha : SE cA xA prog w base g₀ o₀ n a) : SE cA xA prog w base g₀ o₀ n (.op1 .isNone a) := by
  intro x look N ck
  obtain ⟨y, z, p, e0_, hm, c1, c2⟩ := cmp1_eq ck
  clear ck
  subst e0_
  obtain ⟨k', p', rfl⟩ := isC_eq c2
  intro env s W H r A Q X Qm Em S F Si h q qx
  refine wpAny_Compare1 (ha c1 S F Si (show wpE (callAt defs n) X r a H fun x H => optP (ev1 H .isNone x) fun z => Q z H from h) (fun y₁ H₁ v s₁ W₁ e₁ S₁ r₁ h₁ => wpAny_Constant_none ?_) qx) hm
  obtain ⟨z, hz, hq⟩ := optB h₁
  exact wpAny_mono (un_isNone S₁ r₁ hz) (fun v' s' o => (q.at e₁).ok1 hq _ _ o) fun _ _ x => x
theorem sE_notNone {a : E} (ha : SE cA xA prog w base g₀ o₀ n a) : SE cA xA prog w base g₀ o₀ n (.op1 .notNone a) := by
  intro x look N ck
  obtain ⟨y, z, p, e0_, hm, c1, c2⟩ := cmp1_eq ck
  clear ck
  subst e0_
  obtain ⟨k', p', rfl⟩ := isC_eq c2
  intro env s W H r A Q X Qm Em S F Si h q qx
  refine wpAny_Compare1 (ha c1 S F Si (show wpE (callAt defs n) X r a H fun x H => optP (ev1 H .notNone x) fun z => Q z H from h) (fun y₁ H₁ v s₁ W₁ e₁ S₁ r₁ h₁ => wpAny_Constant_none ?_) qx) hm
  obtain ⟨z, hz, hq⟩ := optB h₁
  exact wpAny_mono (un_notNone S₁ r₁ hz) (fun v' s' o => (q.at e₁).ok1 hq _ _ o) fun _ _ x => x
theorem sE_fld (FX : Fix K cA fA xA prog w base g₀ o₀ n) {c : Cls} {i : Nat} {a : E} (ha : SE cA xA prog w base g₀ o₀ n a) : SE cA xA prog w base g₀ o₀ n (.op1 (.fld c i) a) := by
  intro x look N ck
  refine @bc _ fun k_ => ?_
  obtain ⟨⟨y, nm⟩, ⟨p, e0_, hb⟩, cq⟩ := chk_ok ck
  apply k_; clear k_ ck
  subst e0_
  refine @bc _ fun k_ => ?_
  obtain ⟨c1, c2⟩ := and_ok cq
  obtain ⟨m, hm, c1⟩ := any_eq c1
  apply k_; clear k_
  have c1 : Str.ofString m = nm := eq_of_beq c1
  subst c1
  intro env s W H r A Q X Qm Em S F Si h q qx
  refine attr_of hb (ha c2 S F Si (show wpE (callAt defs n) X r a H fun x H => optP (ev1 H (.fld c i) x) fun z => Q z H from h) (fun y₁ H₁ v s₁ W₁ e₁ S₁ r₁ h₁ => ?_) qx)
  refine @bc _ fun k_ => ?_
  obtain ⟨z, hz, hq⟩ := optB h₁
  obtain ⟨xs, hxs, hz⟩ := bind_is hz
  apply k_; clear k_
  exact wpAny_mono (getFld S₁ FX.KO.inK (FX.KO.cls c) r₁ hxs hz hm) (fun v' s' o => (q.at e₁).ok1 hq _ _ o) fun _ _ x => x
theorem sE_two {a b : E} {y z : Expr} {look : Str → Option NameKind} {N : List Str} {o : Op2} (ha : SndE cA xA prog w base g₀ o₀ n look N a y) (hb : SndE cA xA prog w base g₀ o₀ n look N b z)
    {env : Env} {s : Shared} {W : Wd} {H : St} {r : Loc} {A : Around} {Q : V → St → Prop} {X : St → Prop} {Qm : Value → Shared → Prop} {Em : Value → Shared → Prop} {t : Value → Value → Sem Value}
    (S : StOk cA prog w base g₀ o₀ s W H) (F : FrOk cA look N env s W r) (Si : Site A (2 * n + 1) s W) (h : wpE (callAt defs n) X r (.op2 o a b) H Q) (q : OKQ cA prog w base g₀ o₀ s W Q Qm) (qx : OKX cA xA prog w base g₀ o₀ s W X Em)
    (ht : ∀ {y₁ y₂ v₁ v₂ s₂ W₂ H₂ zz}, StOk cA prog w base g₀ o₀ s₂ W₂ H₂ → Rep cA s₂.heap W₂ y₁ v₁ → Rep cA s₂.heap W₂ y₂ v₂ → ev2 H₂ o y₁ y₂ = some zz → wpAny (model prog w) A (t v₁ v₂) (Ok1 cA prog w base g₀ o₀ s₂ W₂ H₂ zz) Em s₂) :
    wpAny (model prog w) A (eval y env) (fun v₁ s₁ => wpAny (model prog w) A (eval z env) (fun v₂ s₂ => wpAny (model prog w) A (t v₁ v₂) Qm Em s₂) Em s₁) Em s := by
  refine ha S F Si (show wpE (callAt defs n) X r a H fun x H => wpE (callAt defs n) X r b H fun y H => optP (ev2 H o x y) fun z => Q z H from h) (fun y₁ H₁ v₁ s₁ W₁ e₁ S₁ r₁ h₁ => hb S₁ (F.ext0 e₁) (Si.ext e₁) h₁ (fun y₂ H₂ v₂ s₂ W₂ e₂ S₂ r₂ h₂ => ?_) (qx.at e₁)) qx
  obtain ⟨zz, hz, hq⟩ := optB h₂
  exact wpAny_mono (ht S₂ (e₂.rep r₁) r₂ hz) (fun v' s' o => (q.at (e₁.trans e₂)).ok1 hq _ _ o) fun _ _ x => x
theorem sE_bin {o : Op2} {p : Operator} {a b : E} (hp : o.bin = some p) (ha : SE cA xA prog w base g₀ o₀ n a) (hb : SE cA xA prog w base g₀ o₀ n b) (hi : ∀ {look N x}, isE look N (.op2 o a b) x = true → bin1 p (fun y => isE look N a y) (fun y => isE look N b y) x = true) : SE cA xA prog w base g₀ o₀ n (.op2 o a b) := by
  intro x look N ck
  obtain ⟨y, z, pp, e0_, c1, c2⟩ := bin1_eq (hi ck)
  clear ck
  subst e0_
  intro env s W H r A Q X Qm Em S F Si h q qx
  exact wpAny_BinOp (sE_two (ha c1) (hb c2) S F Si h q qx fun S₂ r₁ r₂ hz => bin2 S₂ hp r₁ r₂ hz)
theorem sE_cmp {o : Op2} {p : CmpOp} {a b : E} (hp : o.cmp = some p) (ha : SE cA xA prog w base g₀ o₀ n a) (hb : SE cA xA prog w base g₀ o₀ n b) (hi : ∀ {look N x}, isE look N (.op2 o a b) x = true → cmp1 p (fun y => isE look N a y) (fun y => isE look N b y) x = true) : SE cA xA prog w base g₀ o₀ n (.op2 o a b) := by
  intro x look N ck
  obtain ⟨y, z, pp, e0_, hm, c1, c2⟩ := cmp1_eq (hi ck)
  clear ck
  subst e0_
  intro env s W H r A Q X Qm Em S F Si h q qx
  exact wpAny_Compare1 (sE_two (ha c1) (hb c2) S F Si h q qx fun S₂ r₁ r₂ hz => cmp2 S₂ (Si.room.le (Nat.zero_le _)) hp r₁ r₂ hz) hm
theorem sE_bi2 (FX : Fix K cA fA xA prog w base g₀ o₀ n) {o : Op2} {b' : Bi} {a b : E} (hp : o.bi = some b') (ha : SE cA xA prog w base g₀ o₀ n a) (hb : SE cA xA prog w base g₀ o₀ n b) (hi : ∀ {look N x}, isE look N (.op2 o a b) x = true → call2 look b'.name (fun y => isE look N a y) (fun y => isE look N b y) x = true) : SE cA xA prog w base g₀ o₀ n (.op2 o a b) := by
  intro x look N ck
  obtain ⟨nm, y, z, p, p', e0_, c1, c2, c3, c4, c5⟩ := call2_eq (hi ck)
  clear ck
  subst e0_
  obtain ⟨rfl, hl, _⟩ := isGl_eq c1
  intro env s W H r A Q X Qm Em S F Si h q qx
  refine wpAny_Call_Name_kw (ld_bi FX.KO S F hl ?_)
  refine cw_of (fun _ => True) (by simp [c2, c3]) (nonref_keep (bi_nonref b')) ?_
  exact wpAny_items_cons (wpAny_mono (sE_two (t := fun v₁ v₂ => call b'.val [v₁, v₂]) (ha c4) (hb c5) S F Si h q qx fun S₂ r₁ r₂ hz => bi2 S₂ (Si.room.le (Nat.zero_le _)) hp r₁ r₂ hz) (fun v₁ s₁ h₁ =>
    wpAny_items_cons (wpAny_mono h₁ (fun v₂ s₂ h₂ => wpAny_items_nil ⟨trivial, h₂⟩) fun _ _ x => x) (starEach_cons c3)) fun _ _ x => x) (starEach_cons c2)
theorem sE_idx {a b : E} (ha : SE cA xA prog w base g₀ o₀ n a) (hb : SE cA xA prog w base g₀ o₀ n b) : SE cA xA prog w base g₀ o₀ n (.op2 .idx a b) := by
  intro x look N ck
  refine @bc _ fun k_ => ?_
  obtain ⟨⟨y, z⟩, ⟨p, e0_, hs⟩, c⟩ := chk_ok ck
  apply k_; clear k_ ck
  subst e0_
  obtain ⟨c1, c2⟩ := and_ok c
  intro env s W H r A Q X Qm Em S F Si h q qx
  refine sub_of hs (ha c1 S F Si (show wpE (callAt defs n) X r a H fun x H => wpE (callAt defs n) X r b H fun y H => optP (ev2 H .idx x y) fun z => Q z H from h) (fun y₁ H₁ v₁ s₁ W₁ e₁ S₁ r₁ h₁ => hb c2 S₁ (F.ext0 e₁) (Si.ext e₁) h₁ (fun y₂ H₂ v₂ s₂ W₂ e₂ S₂ r₂ h₂ => ?_) (qx.at e₁)) qx)
  refine @bc _ fun k_ => ?_
  obtain ⟨zz, hz, hq⟩ := optB h₂
  obtain ⟨k, hk, hz⟩ := bind_is hz
  apply k_; clear k_
  rw [intV_eq hk] at r₂
  refine @bc _ fun k_ => ?_
  obtain ⟨xs, hxs, hg⟩ := bind_is hz
  obtain ⟨ad, T, id, t, e0_, e1_, hT, hl, hget⟩ := getItemV (A := A) (E := Em) S₂ (e₂.rep r₁) r₂ hxs hg
  apply k_; clear k_
  subst e0_ e1_
  exact ⟨T, id, hT, hl, wpAny_mono hget (fun v' s' o => (q.at (e₁.trans e₂)).ok1 hq _ _ o) fun _ _ x => x⟩
theorem sE_index {a b : E} (ha : SE cA xA prog w base g₀ o₀ n a) : SE cA xA prog w base g₀ o₀ n (.op2 .index a b) := by
  intro x look N ck
  obtain ⟨c0, c⟩ := and_ok ck
  obtain ⟨k, rfl⟩ := some_ok c0
  obtain ⟨y, z, ⟨ap, p, e0_, hb, hp, hs, hl⟩, c1, c2⟩ := meth1_eq c
  clear ck
  subst e0_
  have c2 := asInt_ok c2
  have hs' : notStar z = true := by simpa using hs
  intro env s W H r A Q X Qm Em S F Si h q qx
  refine mc_of hb hp hs hl (ha c1 S F Si (show wpE (callAt defs n) X r a H fun x H => wpE (callAt defs n) X r (.int k) H fun y H => optP (ev2 H .index x y) fun z => Q z H from h) (fun y₁ H₁ v₁ s₁ W₁ e₁ S₁ r₁ h₁ pl => ?_) qx)
  refine @bc _ fun k_ => ?_
  obtain ⟨zz, hz, hq⟩ := optB (show optP (ev2 H₁ .index y₁ (.int k)) (fun z => Q z H₁) from h₁)
  obtain ⟨xs, hxs, hz⟩ := bind_is (show (itemsV H₁ y₁).bind (fun xs => (intsV xs).bind fun ns => if k ∈ ns then some (.int (ns.idxOf k : Nat)) else .none) = some zz from hz)
  obtain ⟨ns, hns, hz⟩ := bind_is hz
  obtain ⟨hk, e0_⟩ := if_is hz
  apply k_; clear k_
  subst e0_
  refine @bc _ fun k_ => ?_
  obtain ⟨ad, vs, e0_, ⟨ep, ho⟩, hn, rq⟩ := itemsV_at S₁ r₁ hxs
  apply k_; clear k_
  subst e0_
  refine getMethod_builtin ⟨_, ho, rfl⟩ PySem.F.plainAttrs_list PySem.F.slot_list_index PySem.F.type_list_index (fun a' e => by cases e; exact ⟨_, ho, rfl⟩) ?_
  refine cw_of (fun _ => True) hs (nonref_keep fun _ q => by cases q) ?_
  refine wpAny_items_cons (int_of c2 fun t t' => wpAny_items_nil ⟨trivial, ?_⟩) (starEach_cons hs')
  have S₂ : StOk cA prog w base g₀ o₀ { s₁ with toks := t' } W₁ H₁ := S₁.grow (fun _ _ e => e)
  exact wpAny_mono (call_indexV S₂ (r₁ : Rep cA s₁.heap W₁ y₁ _) ⟨t, rfl⟩ hxs hns hk) (fun v' s' o => (q.at (e₁.trans (Ext.of_keeps (s' := { s₁ with toks := t' }) fun _ _ e => e))).ok1 hq _ _ o) fun _ _ x => x
theorem sE_get {a b c : E} (ha : SE cA xA prog w base g₀ o₀ n a) (hb : SE cA xA prog w base g₀ o₀ n b) (hc : SE cA xA prog w base g₀ o₀ n c) : SE cA xA prog w base g₀ o₀ n (.op3 .get a b c) := by
  intro x look N ck
  refine @bc _ fun k_ => ?_
  obtain ⟨⟨y, nm, as⟩, ⟨ap, p, e0_, hbs, hp, hs, hl⟩, ct⟩ := chk_ok ck
  apply k_; clear k_ ck
  subst e0_
  refine @bc _ fun k_ => ?_
  obtain ⟨c0, ct⟩ := and_ok ct
  obtain ⟨c1, ct⟩ := and_ok ct
  obtain ⟨⟨z, u⟩, hzu, ct⟩ := chk_ok ct
  obtain ⟨c2, c3⟩ := and_ok ct
  apply k_; clear k_
  have c0 : Str.ofString "get" = nm := eq_of_beq c0
  dsimp only at hzu c2 c3 hs hl c1
  subst c0 hzu
  have hs' : notStar z = true ∧ notStar u = true := by simpa using hs
  intro env s W H r A Q X Qm Em S F Si h q qx
  refine mc_of hbs hp hs hl (ha c1 S F Si (show wpE (callAt defs n) X r a H fun x H => pre3 H .get x ∧ wpE (callAt defs n) X r b H fun y H => wpE (callAt defs n) X r c H fun z H => optP (ev3 H .get x y z) fun u => Q u H from h) (fun y₁ H₁ v₁ s₁ W₁ e₁ S₁ r₁ h₁ pl => ?_) qx)
  refine @bc _ fun k_ => ?_
  obtain ⟨hp1, h₁⟩ := h₁
  obtain ⟨m1, hm1⟩ := Option.isSome_iff_exists.mp (show (dictV H₁ y₁).isSome = true from hp1)
  obtain ⟨ad, ps, e0_, _, hd, _⟩ := dictV_at S₁ r₁ hm1
  apply k_; clear k_
  subst e0_
  refine @bc _ fun k_ => ?_
  obtain ⟨od, es, ep, ho, ⟨hc1, hc2, hc3⟩, _⟩ := id hd
  apply k_; clear k_
  refine getMethod_builtin hd.typeIs PySem.F.plainAttrs_dict PySem.F.slot_dict_get PySem.F.type_dict_get (fun a' e => by cases e; exact ⟨_, ho, hc2⟩) ?_
  refine cw_of (fun _ => True) hs (nonref_keep fun _ q => by cases q) ?_
  refine wpAny_items_cons (hb c2 S₁ (F.ext0 e₁) (Si.ext e₁) h₁ (fun y₂ H₂ v₂ s₂ W₂ e₂ S₂ r₂ h₂ => ?_) (qx.at e₁)) (starEach_cons hs'.1)
  refine wpAny_items_cons (hc c3 S₂ (F.ext0 (e₁.trans e₂)) (Si.ext (e₁.trans e₂)) h₂ (fun y₃ H₃ v₃ s₃ W₃ e₃ S₃ r₃ h₃ => wpAny_items_nil ⟨trivial, ?_⟩) (qx.at (e₁.trans e₂))) (starEach_cons hs'.2)
  refine @bc _ fun k_ => ?_
  obtain ⟨zz, hz, hq⟩ := optB h₃
  obtain ⟨k, hk, hz⟩ := bind_is hz
  obtain ⟨m, hm, e0_⟩ := map_is hz
  apply k_; clear k_
  subst e0_
  rw [intV_eq hk] at r₂
  exact wpAny_mono (call_getV S₃ ((e₂.trans e₃).rep r₁) (e₃.rep r₂) r₃ hm) (fun v' s' o => (q.at ((e₁.trans e₂).trans e₃)).ok1 hq _ _ o) fun _ _ x => x
theorem sE_range (FX : Fix K cA fA xA prog w base g₀ o₀ n) {a b c : E} (ha : SE cA xA prog w base g₀ o₀ n a) (hb : SE cA xA prog w base g₀ o₀ n b) (hc : SE cA xA prog w base g₀ o₀ n c) : SE cA xA prog w base g₀ o₀ n (.op3 .range a b c) := by
  intro x look N ck
  refine @bc _ fun k_ => ?_
  obtain ⟨nm, y, z, u, p, p', e0_, c1, ⟨c2, c3, c4⟩, c5, c6, c7⟩ := call3_eq ck
  apply k_; clear k_ ck
  subst e0_
  obtain ⟨rfl, hl, _⟩ := isGl_eq c1
  intro env s W H r A Q X Qm Em S F Si h q qx
  refine wpAny_Call_Name_kw (ld_bi (b := .range) FX.KO S F hl ?_)
  refine cw_of (fun _ => True) (by simp [c2, c3, c4]) (nonref_keep (bi_nonref .range)) ?_
  refine wpAny_items_cons (ha c5 S F Si (show wpE (callAt defs n) X r a H fun x H => pre3 H .range x ∧ wpE (callAt defs n) X r b H fun y H => wpE (callAt defs n) X r c H fun z H => optP (ev3 H .range x y z) fun u => Q u H from h) (fun y₁ H₁ v₁ s₁ W₁ e₁ S₁ r₁ h₁ => ?_) qx) (starEach_cons c2)
  refine wpAny_items_cons (hb c6 S₁ (F.ext0 e₁) (Si.ext e₁) h₁.2 (fun y₂ H₂ v₂ s₂ W₂ e₂ S₂ r₂ h₂ => ?_) (qx.at e₁)) (starEach_cons c3)
  refine wpAny_items_cons (hc c7 S₂ (F.ext0 (e₁.trans e₂)) (Si.ext (e₁.trans e₂)) h₂ (fun y₃ H₃ v₃ s₃ W₃ e₃ S₃ r₃ h₃ => wpAny_items_nil ⟨trivial, ?_⟩) (qx.at (e₁.trans e₂))) (starEach_cons c4)
  refine @bc _ fun k_ => ?_
  obtain ⟨zz, hz, hq⟩ := optB h₃
  obtain ⟨i, hi, hz⟩ := bind_is hz
  obtain ⟨j, hj, hz⟩ := bind_is hz
  obtain ⟨k, hk, hz⟩ := bind_is hz
  obtain ⟨hg, e0_⟩ := if_is hz
  apply k_; clear k_
  subst e0_
  rw [intV_eq hi] at r₁
  rw [intV_eq hj] at r₂
  rw [intV_eq hk] at r₃
  exact wpAny_mono (call_range3 S₃ ((e₂.trans e₃).rep r₁) (e₃.rep r₂) r₃ hg.1 hg.2.2.2.2.2.1 hg.2.2.2.2.2.2) (fun v' s' o => (q.at ((e₁.trans e₂).trans e₃)).ok1 hq _ _ o) fun _ _ x => x
inductive IfIs (f g k : Expr → Bool) (x : Expr) : Prop | mk (y z u : Expr) (p : Pos) (e : x = .IfExp y z u p) (h1 : f y = true) (h2 : g z = true) (h3 : k u = true)
theorem isIf_ok {look : Str → Option NameKind} {N : List Str} {t a b : E} {x : Expr} (ck : isE look N (.ite t a b) x = true) : IfIs (fun y => isE look N t y) (fun y => isE look N a y) (fun y => isE look N b y) x := by
  refine @bc _ fun k_ => ?_
  obtain ⟨t, ⟨p, e⟩, c⟩ := chk_ok ck
  apply k_; clear k_
  exact ⟨t.1, t.2.1, t.2.2, p, e, (and_ok c).1, (and_ok (and_ok c).2).1, (and_ok (and_ok c).2).2⟩
theorem sE_ite {t a b : E} (ht : ST cA xA prog w base g₀ o₀ n t) (ha : SE cA xA prog w base g₀ o₀ n a) (hb : SE cA xA prog w base g₀ o₀ n b) : SE cA xA prog w base g₀ o₀ n (.ite t a b) := by
  intro x look N ck
  obtain ⟨y, z, u, p, e0_, c1, c2, c3⟩ := isIf_ok ck
  clear ck
  subst e0_
  intro env s W H r A Q X Qm Em S F Si h q qx
  refine wpAny_IfExp (ht c1 S F Si h (fun _ _ h => h) (fun c H₁ s₁ W₁ e₁ S₁ h₁ => ?_) qx)
  cases c
  · exact hb c3 S₁ (F.ext0 e₁) (Si.ext e₁) h₁ (q.at e₁) (qx.at e₁)
  · exact ha c2 S₁ (F.ext0 e₁) (Si.ext e₁) h₁ (q.at e₁) (qx.at e₁)
theorem isAnd_ok {o : BoolOp} (h : (isAnd o).isSome = true) : o = .And := some_ok h
theorem isOr_ok {o : BoolOp} (h : (isOr o).isSome = true) : o = .Or := some_ok h
theorem sE_and {a b : E} (ha : SE cA xA prog w base g₀ o₀ n a) (hb : SE cA xA prog w base g₀ o₀ n b) : SE cA xA prog w base g₀ o₀ n (.and_ a b) := by
  intro x look N ck
  obtain ⟨o, y, z, y', rr, p, ho, e0_, hr, c1, c2⟩ := bool1_eq ck
  clear ck
  subst e0_
  obtain rfl := isAnd_ok ho
  intro env s W H r A Q X Qm Em S F Si h q qx
  refine BoolOp_and (ha c1 S F Si h (fun y₁ H₁ v₁ s₁ W₁ e₁ S₁ r₁ h₁ => ?_) qx)
  obtain ⟨c, rfl, h₁⟩ := boolB h₁
  obtain rfl := rep_bool r₁
  refine wpAny_truthy_bool ?_
  rw [bool_rest hr]
  cases c
  · exact q _ _ _ _ _ e₁ S₁ r₁ h₁
  · refine hb c2 S₁ (F.ext0 e₁) (Si.ext e₁) h₁ (fun y₂ H₂ v₂ s₂ W₂ e₂ S₂ r₂ h₂ => ?_) (qx.at e₁)
    obtain ⟨c, rfl, h₂⟩ := boolB h₂
    exact q _ _ _ _ _ (e₁.trans e₂) S₂ r₂ h₂
theorem sE_or {a b : E} (ha : SE cA xA prog w base g₀ o₀ n a) (hb : SE cA xA prog w base g₀ o₀ n b) : SE cA xA prog w base g₀ o₀ n (.or_ a b) := by
  intro x look N ck
  obtain ⟨o, y, z, y', rr, p, ho, e0_, hr, c1, c2⟩ := bool1_eq ck
  clear ck
  subst e0_
  obtain rfl := isOr_ok ho
  intro env s W H r A Q X Qm Em S F Si h q qx
  refine BoolOp_or (ha c1 S F Si h (fun y₁ H₁ v₁ s₁ W₁ e₁ S₁ r₁ h₁ => ?_) qx)
  obtain ⟨c, rfl, h₁⟩ := boolB h₁
  obtain rfl := rep_bool r₁
  refine wpAny_truthy_bool ?_
  rw [bool_rest hr]
  cases c
  · refine hb c2 S₁ (F.ext0 e₁) (Si.ext e₁) h₁ (fun y₂ H₂ v₂ s₂ W₂ e₂ S₂ r₂ h₂ => ?_) (qx.at e₁)
    obtain ⟨c, rfl, h₂⟩ := boolB h₂
    exact q _ _ _ _ _ (e₁.trans e₂) S₂ r₂ h₂
  · exact q _ _ _ _ _ e₁ S₁ r₁ h₁
theorem isChain_ok {look : Str → Option NameKind} {N : List Str} {a b c : E} {x : Expr} (ck : isE look N (.chain a b c) x = true) : ∃ y z u p, x = .Compare y [.LtE, .LtE] [z, u] p ∧ lastMarks [.LtE, .LtE] [z, u] = false ∧ isE look N a y = true ∧ isE look N b z = true ∧ isE look N c u = true := by
  refine @bc _ fun k_ => ?_
  obtain ⟨⟨y, os, rs⟩, ⟨p, e⟩, c⟩ := chk_ok ck
  obtain ⟨c1, c⟩ := and_ok c
  obtain ⟨z, hz, c⟩ := chk_ok c
  obtain ⟨c2, c⟩ := and_ok c
  apply k_; clear k_
  have c1 : os = [.LtE, .LtE] := eq_of_beq c1
  have hz : rs = [z.1, z.2] := hz
  refine ⟨y, z.1, z.2, p, ?_, not_ok c2, (and_ok c).1, and_ok (and_ok c).2⟩
  simp only [e, ← c1, ← hz]
theorem sE_chain {a b c : E} (ha : SE cA xA prog w base g₀ o₀ n a) (hb : SE cA xA prog w base g₀ o₀ n b) (hc : SE cA xA prog w base g₀ o₀ n c) : SE cA xA prog w base g₀ o₀ n (.chain a b c) := by
  intro x look N ck
  refine @bc _ fun k_ => ?_
  obtain ⟨y, z, u, p, e0_, hm, c1, c2, c3⟩ := isChain_ok ck
  apply k_; clear k_ ck
  subst e0_
  intro env s W H r A Q X Qm Em S F Si h q qx
  have R0 : Room A 0 := Si.room.le (Nat.zero_le _)
  refine Compare_chain (ha c1 S F Si h (fun y₁ H₁ v₁ s₁ W₁ e₁ S₁ r₁ h₁ => ?_) qx) hm
  refine chain_link (hb c2 S₁ (F.ext0 e₁) (Si.ext e₁) h₁ (fun y₂ H₂ v₂ s₂ W₂ e₂ S₂ r₂ h₂ => ?_) (qx.at e₁))
  refine @bc _ fun k_ => ?_
  obtain ⟨zz, hz, hq⟩ := optB h₂
  obtain ⟨c', e0_, h₂⟩ := boolB hq
  apply k_; clear k_
  subst e0_
  refine wpAny_mono (cmp2 S₂ R0 rfl (e₂.rep r₁) r₂ hz) (fun v' s' o => ?_) fun _ _ x => x
  refine @bc _ fun k_ => ?_
  obtain ⟨o1, o2, o3⟩ := o
  apply k_; clear k_
  obtain rfl := rep_bool o3
  refine wpAny_truthy_bool ?_
  have e₃ := (e₁.trans e₂).trans o1
  cases c'
  · exact q _ _ _ _ _ e₃ o2 o3 h₂
  · refine chain_last (hc c3 o2 (F.ext0 e₃) (Si.ext e₃) h₂ (fun y₃ H₃ v₃ s₃ W₃ e₄ S₃ r₃ h₃ => ?_) (qx.at e₃))
    obtain ⟨zz, hz, hq⟩ := optB h₃
    exact wpAny_mono (cmp2 S₃ R0 rfl (o1.trans e₄ |>.rep r₂) r₃ hz) (fun v' s' o => (q.at (e₃.trans e₄)).ok1 hq _ _ o) fun _ _ x => x
def SEs (cA : Cls → Addr) (xA : Addr) (prog : Program) (w : World) (base : Heap) (g₀ : Array GenState) (o₀ : OsState) (n : Nat) (es : EL) : Prop :=
  ∀ {xs : List Expr} {look : Str → Option NameKind} {N : List Str} {env : Env} {pos : Pos} {s : Shared} {W : Wd} {H : St} {r : Loc} {A : Around} {Q : List V → St → Prop} {X : St → Prop} {Qm : List Value → Shared → Prop} {Em : Value → Shared → Prop},
    isEs look N es xs = true → StOk cA prog w base g₀ o₀ s W H → FrOk cA look N env s W r → Site A (2 * n + 1) s W → wpEs (callAt defs n) X r es H Q →
    (∀ ys H' vs s' W', Ext NP s W s' W' → StOk cA prog w base g₀ o₀ s' W' H' → Reps cA s'.heap W' ys vs → Q ys H' → Qm vs s') → OKX cA xA prog w base g₀ o₀ s W X Em →
    wpAny (model prog w) A (spliced (backTo pos (starEach xs env))) Qm Em s
theorem sEs_nil : SEs cA xA prog w base g₀ o₀ n .nil := by
  intro xs look N env pos s W H r A Q X Qm Em ck S F Si h q qx
  rw [(some_ok ck : xs = [])]
  exact wpAny_items_nil (q [] H [] s W (Ext.refl ..) S trivial h)
theorem sEs_cons {e : E} {es : EL} (he : SE cA xA prog w base g₀ o₀ n e) (hes : SEs cA xA prog w base g₀ o₀ n es) : SEs cA xA prog w base g₀ o₀ n (.cons e es) := by
  intro xs look N env pos s W H r A Q X Qm Em ck S F Si h q qx
  cases xs with
  | nil => cases ck
  | cons x xs =>
    refine @bc _ fun k_ => ?_
    obtain ⟨c1, c⟩ := and_ok ck
    obtain ⟨c2, c3⟩ := and_ok c
    apply k_; clear k_
    refine wpAny_items_cons (he c2 S F Si h (fun y₁ H₁ v₁ s₁ W₁ e₁ S₁ r₁ h₁ => ?_) qx) (starEach_cons c1)
    exact hes c3 S₁ (F.ext0 e₁) (Si.ext e₁) h₁ (fun ys H₂ vs s₂ W₂ e₂ S₂ r₂ h₂ => q (y₁ :: ys) H₂ (v₁ :: vs) s₂ W₂ (e₁.trans e₂) S₂ ⟨e₂.rep r₁, r₂⟩ h₂) (qx.at e₁)
theorem sEs_two {a b : E} (ha : SE cA xA prog w base g₀ o₀ n a) (hb : SE cA xA prog w base g₀ o₀ n b) {xs : List Expr} {look : Str → Option NameKind} {N : List Str} {env : Env} {pos : Pos} {s : Shared} {W : Wd} {H : St} {r : Loc} {A : Around} {Q : List V → St → Prop} {X : St → Prop} {Qm : List Value → Shared → Prop} {Em : Value → Shared → Prop}
    (ck : isEs look N (.cons a (.cons b .nil)) xs = true) (S : StOk cA prog w base g₀ o₀ s W H) (F : FrOk cA look N env s W r) (Si : Site A (2 * n + 1) s W) (h : wpEs (callAt defs n) X r (.cons a (.cons b .nil)) H Q)
    (q : ∀ y₁ y₂ H' v₁ v₂ s' W', Ext NP s W s' W' → StOk cA prog w base g₀ o₀ s' W' H' → Q [y₁, y₂] H' → Qm [v₁, v₂] s') (qx : OKX cA xA prog w base g₀ o₀ s W X Em) : wpAny (model prog w) A (spliced (backTo pos (starEach xs env))) Qm Em s := by
  cases xs with
  | nil => cases ck
  | cons x xs => cases xs with
    | nil => cases (and_ok (and_ok ck).2).2
    | cons y xs =>
      refine @bc _ fun k_ => ?_
      obtain ⟨c1, c⟩ := and_ok ck
      obtain ⟨c2, c⟩ := and_ok c
      obtain ⟨c3, c⟩ := and_ok c
      obtain ⟨c4, c⟩ := and_ok c
      apply k_; clear k_
      rw [(some_ok c : xs = [])]
      refine wpAny_items_cons (ha c2 S F Si h (fun y₁ H₁ v₁ s₁ W₁ e₁ S₁ r₁ h₁ => ?_) qx) (starEach_cons c1)
      exact wpAny_items_cons (hb c4 S₁ (F.ext0 e₁) (Si.ext e₁) h₁ (fun y₂ H₂ v₂ s₂ W₂ e₂ S₂ r₂ h₂ => wpAny_items_nil (q y₁ y₂ H₂ v₁ v₂ s₂ W₂ (e₁.trans e₂) S₂ h₂)) (qx.at e₁)) (starEach_cons c3)
theorem sE_call (FX : Fix K cA fA xA prog w base g₀ o₀ n) {f : Fn} {args : EL} (ha : SEs cA xA prog w base g₀ o₀ n args) : SE cA xA prog w base g₀ o₀ n (.call f args) := by
  intro x look N ck
  refine @bc _ fun k_ => ?_
  obtain ⟨⟨nm, as⟩, ⟨p, p', e0_⟩, c⟩ := chk_ok ck
  apply k_; clear k_ ck
  subst e0_
  obtain ⟨c1, c⟩ := and_ok c
  obtain ⟨c2, c3⟩ := and_ok c
  have c1 : f.cls = .none := eq_of_beq c1
  obtain ⟨rfl, hl, hd⟩ := isGl_eq c2
  intro env s W H r A Q X Qm Em S F Si h q qx
  refine wpAny_Call_Name_kw (ld_glob FX.KO S F hl hd (FX.KO.gfn f c1) ?_)
  refine cw_of K.In (isEs_star c3) (keeps_K (FX.KO.fn f).2) ?_
  refine ha c3 S F Si h (fun ys H₁ vs s₁ W₁ e₁ S₁ r₁ h₁ => ⟨S₁.k FX.KO, wpAny_call ?_⟩) qx
  have Si₁ := Si.ext e₁
  exact FX.CS f ys H₁ Q X s₁ W₁ A vs _ h₁ S₁ r₁ ⟨Si₁.room.le (Nat.le_succ _), Si₁.stk⟩ (fun y H' v s' W' e' S' r' h' => q _ _ _ _ _ (e₁.trans e') S' r' h') (qx.at e₁)
theorem isA_is {H : St} {f : Fn} {v : V} (h : isA H f v) : ∃ c xs, f.cls = some c ∧ fldsV H c v = some xs := by
  unfold isA at h
  cases hc : f.cls with
  | none => rw [hc] at h; exact h.elim
  | some c =>
    rw [hc] at h
    obtain ⟨xs, hx⟩ := Option.isSome_iff_exists.mp h
    exact ⟨c, xs, rfl, hx⟩
theorem sE_meth (FX : Fix K cA fA xA prog w base g₀ o₀ n) {f : Fn} {o : E} {args : EL} (ho : SE cA xA prog w base g₀ o₀ n o) (ha : SEs cA xA prog w base g₀ o₀ n args) : SE cA xA prog w base g₀ o₀ n (.meth f o args) := by
  intro x look N ck
  refine @bc _ fun k_ => ?_
  obtain ⟨⟨y, nm, as⟩, ⟨ap, p, e0_, hb, hp, hs, hl⟩, c⟩ := chk_ok ck
  apply k_; clear k_ ck
  subst e0_
  obtain ⟨c1, c⟩ := and_ok c
  obtain ⟨c2, c3⟩ := and_ok c
  have c1 : Str.ofString f.name = nm := eq_of_beq c1
  subst c1
  intro env s W H r A Q X Qm Em S F Si h q qx
  refine mc_of hb hp hs hl (ho c2 S F Si h (fun y₁ H₁ v₁ s₁ W₁ e₁ S₁ r₁ h₁ pl => ?_) qx)
  refine @bc _ fun k_ => ?_
  obtain ⟨hi, h₁⟩ := h₁
  obtain ⟨c, xs, hc, hxs⟩ := isA_is hi
  apply k_; clear k_
  refine getM FX.KO S₁ hc r₁ hxs ?_
  refine cw_of K.In hs (keeps_K (FX.KO.fn f).2) ?_
  refine ha c3 S₁ (F.ext0 e₁) (Si.ext e₁) h₁ (fun ys H₂ vs s₂ W₂ e₂ S₂ r₂ h₂ => ⟨S₂.k FX.KO, wpAny_call ?_⟩) (qx.at e₁)
  have Si₂ := Si.ext (e₁.trans e₂)
  exact FX.CS f (y₁ :: ys) H₂ Q X s₂ W₂ A (v₁ :: vs) _ h₂ S₂ ⟨e₂.rep r₁, r₂⟩ ⟨Si₂.room.le (Nat.le_succ _), Si₂.stk⟩ (fun y H' v s' W' e' S' r' h' => q _ _ _ _ _ ((e₁.trans e₂).trans e') S' r' h') (qx.at (e₁.trans e₂))
theorem sE_new (FX : Fix K cA fA xA prog w base g₀ o₀ n) {c : Cls} {t : Tag} {args : EL} (ha : SEs cA xA prog w base g₀ o₀ n args) : SE cA xA prog w base g₀ o₀ n (.new c t args) := by
  intro x look N ck
  refine @bc _ fun k_ => ?_
  obtain ⟨⟨nm, as⟩, ⟨p, p', e0_⟩, cq⟩ := chk_ok ck
  apply k_; clear k_ ck
  subst e0_
  refine @bc _ fun k_ => ?_
  obtain ⟨c1, c2⟩ := and_ok cq
  obtain ⟨e0_, hl, hd⟩ := isGl_eq c1
  apply k_; clear k_
  subst e0_
  intro env s W H r A Q X Qm Em S F Si h q qx
  refine wpAny_Call_Name_kw (ld_glob FX.KO S F hl hd (FX.KO.gcls c) ?_)
  refine cw_of K.In (isEs_star c2) (keeps_K (FX.KO.keepc c)) ?_
  refine ha c2 S F Si h (fun ys H₁ vs s₁ W₁ e₁ S₁ r₁ h₁ => ⟨S₁.k FX.KO, ?_⟩) qx
  refine newO (Q := fun y a H' => y = .none ∧ Q (.ref t a) H') FX.KO FX.CS S₁ (Si.ext e₁) r₁ (fun a => h₁ a) fun a y H' v s' W' e' S' r' h' => ?_
  obtain ⟨rfl, h'⟩ := h'
  exact ⟨r', q _ _ _ _ _ (e₁.trans e') S' (show Rep cA s'.heap W' (.ref t a) (.ref a) from rfl) h'⟩
theorem fldsRef_is {H : St} {c : Cls} {t : Tag} {a : Nat} {xs : List V} (h : fldsV H c (.ref t a) = some xs) : H t = some (a, .inst c xs) := by
  unfold fldsV at h
  dsimp only at h
  split at h
  · rename_i a' c' xs' hH
    split at h
    · rename_i hac
      have e_ := Option.some.inj h
      clear h
      subst e_
      rw [hH, hac.1, hac.2]
    · exfalso
      cases h
  · exfalso
    cases h
theorem tmp_val {s₁ s' : Shared} {W₁ W' : Wd} {H' : St} {c : Cls} {a : Nat} {xs : List V} (e' : Ext NP s₁ W₁ s' W') (S' : StOk cA prog w base g₀ o₀ s' W' H') (hH : H' .tmp = some (a, .inst c xs)) :
    ∃ W'', Ext NP s₁ W₁ s' W'' ∧ StOk cA prog w base g₀ o₀ s' W'' (upd H' .tmp .none) ∧ Rep cA s'.heap W'' (.inst c xs) (.ref a) := by
  refine @bc _ fun k_ => ?_
  obtain ⟨wa, dx, es, k, wd, hne, g1, g2, g3, g4⟩ := S'.objs _ _ _ hH
  apply k_; clear k_
  have out : ∀ b, W₁ b = some .mach ∨ W₁ b = some .temp → W' b = W₁ b → ¬ (b = a ∨ b = dx) := fun b h1 h2 hb => by
    refine @bc _ fun k_ => ?_
    rcases hb with rfl | rfl <;> (apply k_; clear k_)
    · rw [wa] at h2; rw [← h2] at h1; rcases h1 with h1 | h1 <;> cases h1
    · rw [wd] at h2; rw [← h2] at h1; rcases h1 with h1 | h1 <;> cases h1
  refine ⟨W'.drop fun b => b = a ∨ b = dx, ⟨fun b o hw e => ⟨(e'.keep b o hw e).1, Wd.drop_none _ (e'.keep b o hw e).2⟩, fun b hw => ?_, e'.turn, e'.nofld, fun b o hw hp e => ⟨(e'.temp b o hw hp e).1, ?_⟩⟩,
    (S'.forget .tmp).drop (fun b => b = a ∨ b = dx) fun b t hb hw => ?_, a, dx, es, k, rfl, Wd.drop_in _ (.inl rfl), Wd.drop_in _ (.inr rfl), g1, g2, g3, g4.keeps (keeps_drop W' (fun b => b = a ∨ b = dx) s'.heap)⟩
  · have h1 := e'.mach b hw
    rw [Wd.drop_out _ (out b (.inl hw) (h1.trans hw.symm))]; exact h1
  · have h1 := (e'.temp b o hw hp e).2
    rw [Wd.drop_out _ (out b (.inr hw) (h1.trans hw.symm))]; exact h1
  · have : t = .tmp := by
      rcases hb with rfl | rfl
      · rw [wa] at hw; cases hw; rfl
      · rw [wd] at hw; cases hw; rfl
    simp only [this, upd_same]
theorem sE_newF (FX : Fix K cA fA xA prog w base g₀ o₀ n) {c : Cls} {args : EL} (ha : SEs cA xA prog w base g₀ o₀ n args) : SE cA xA prog w base g₀ o₀ n (.newF c args) := by
  intro x look N ck
  refine @bc _ fun k_ => ?_
  obtain ⟨⟨nm, as⟩, ⟨p, p', e0_⟩, cq⟩ := chk_ok ck
  apply k_; clear k_ ck
  subst e0_
  refine @bc _ fun k_ => ?_
  obtain ⟨c1, c2⟩ := and_ok cq
  obtain ⟨e0_, hl, hd⟩ := isGl_eq c1
  apply k_; clear k_
  subst e0_
  intro env s W H r A Q X Qm Em S F Si h q qx
  refine wpAny_Call_Name_kw (ld_glob FX.KO S F hl hd (FX.KO.gcls c) ?_)
  refine cw_of K.In (isEs_star c2) (keeps_K (FX.KO.keepc c)) ?_
  refine ha c2 S F Si h (fun ys H₁ vs s₁ W₁ e₁ S₁ r₁ h₁ => ⟨S₁.k FX.KO, ?_⟩) qx
  refine newO (t := .tmp) (Q := fun y a H' => y = .none ∧ optP (fldsV H' c (.ref .tmp a)) fun xs => Q (.inst c xs) (upd H' .tmp .none)) FX.KO FX.CS S₁ (Si.ext e₁) r₁ (fun a => h₁ a) fun a y H' v s' W' e' S' r' h' => ?_
  obtain ⟨rfl, h'⟩ := h'
  refine @bc _ fun k_ => ?_
  obtain ⟨xs, hxs, hq⟩ := optB h'
  obtain ⟨W'', e'', S'', r''⟩ := tmp_val e' S' (fldsRef_is hxs)
  apply k_; clear k_
  exact ⟨r', q (.inst _ _) _ _ _ _ (e₁.trans e'') S'' r'' hq⟩
theorem sE_tup {args : EL} (ha : SEs cA xA prog w base g₀ o₀ n args) : SE cA xA prog w base g₀ o₀ n (.tup args) := by
  intro x look N ck
  refine @bc _ fun k_ => ?_
  obtain ⟨as, ⟨k, p, e0_⟩, c⟩ := chk_ok ck
  apply k_; clear k_ ck
  subst e0_
  intro env s W H r A Q X Qm Em S F Si h q qx
  refine wpAny_Tuple (ha c S F Si h (fun ys H₁ vs s₁ W₁ e₁ S₁ r₁ h₁ => ?_) qx)
  have hl := r₁.length
  exact ⟨by rw [← hl]; exact h₁.1, (q.at e₁).ok1 h₁.2 _ _ (made_tup S₁ h₁.1 r₁)⟩
def SndL (cA : Cls → Addr) (xA : Addr) (prog : Program) (w : World) (base : Heap) (g₀ : Array GenState) (o₀ : OsState) (n : Nat) (look : Str → Option NameKind) (N : List Str) (l : L) (x : Expr) : Prop :=
  ∀ {env : Env} {s : Shared} {W : Wd} {H : St} {r : Loc} {A : Around} {Q : List V → St → Prop} {X : St → Prop} {Qm : Value → Shared → Prop} {Em : Value → Shared → Prop},
    StOk cA prog w base g₀ o₀ s W H → FrOk cA look N env s W r → Site A (2 * n + 1) s W → wpL (callAt defs n) X r l H (fun xs H => xs.length ≤ lim ∧ Q xs H) →
    (∀ xs H' v s₁ W₁ s', Ext NP s W s₁ W₁ → StOk cA prog w base g₀ o₀ s₁ W₁ H' → Got cA prog w base g₀ o₀ s₁ W₁ H' xs v s' → xs.length ≤ lim → Q xs H' → Qm v s') → OKX cA xA prog w base g₀ o₀ s W X Em →
    wpAny (model prog w) A (eval x env) Qm Em s
def SL_ (cA : Cls → Addr) (xA : Addr) (prog : Program) (w : World) (base : Heap) (g₀ : Array GenState) (o₀ : OsState) (n : Nat) (l : L) : Prop :=
  ∀ {x : Expr} {look : Str → Option NameKind} {N : List Str}, isL look N l x = true → SndL cA xA prog w base g₀ o₀ n look N l x
theorem sE_frz {l : L} (hl : SL_ cA xA prog w base g₀ o₀ n l) : SE cA xA prog w base g₀ o₀ n (.frz l) := by
  intro x look N ck env s W H r A Q X Qm Em S F Si h q qx
  refine hl ck S F Si h (fun xs H₁ v s₁ W₁ s' e₁ S₁ m hn h₁ => ?_) qx
  obtain ⟨W', e₂, S₂, r₂⟩ := m.frz S₁ hn
  exact q _ _ _ _ _ (e₁.trans e₂) S₂ r₂ h₁
theorem sE_thw {t : Tag} {l : L} (hl : SL_ cA xA prog w base g₀ o₀ n l) : SE cA xA prog w base g₀ o₀ n (.thw t l) := by
  intro x look N ck env s W H r A Q X Qm Em S F Si h q qx
  refine hl ck S F Si h (fun xs H₁ v s₁ W₁ s' e₁ S₁ m hn h₁ => ?_) qx
  obtain ⟨a, W', e0_, e₂, S₂⟩ := m.thw (t := t) S₁ hn
  subst e0_
  exact q _ _ _ _ _ (e₁.trans e₂) S₂ (show Rep cA s'.heap _ (.ref t a) (.ref a) from rfl) (h₁ a)
theorem sE_thwD (FX : Fix K cA fA xA prog w base g₀ o₀ n) (t : Tag) : SE cA xA prog w base g₀ o₀ n (.thwD t) := by
  intro x look N ck
  obtain ⟨p, rfl⟩ := some_ok ck
  intro env s W H r A Q X Qm Em S F Si h q qx
  refine wpAny_Dict_empty ?_
  have e₁ : Ext NP s W { s with heap := s.heap.push { cls := .type "dict", data := .dict #[] } } (W.put s.heap.objs.size (.obj t)) := Ext.owned (size_free _) S.fresh fun _ _ e => Heap.get?_push_of_some _ e
  refine q _ _ _ _ _ e₁ (S.own (size_free _) (fun _ _ e => Heap.get?_push_of_some _ e) rfl rfl ⟨_, Heap.get?_push_size _ rfl⟩ (o := .dict []) ⟨Wd.put_self .., sysApart FX S, [], ⟨_, #[], 0, Heap.get?_push_size _ rfl, ⟨rfl, rfl, rfl⟩, rfl, fun e he => by simp at he, .nil, by simp⟩, trivial⟩)
    (show Rep cA _ _ (.ref t s.heap.objs.size) (.ref s.heap.objs.size) from rfl) (h _)
theorem sL_disp {args : EL} (ha : SEs cA xA prog w base g₀ o₀ n args) : SL_ cA xA prog w base g₀ o₀ n (.disp args) := by
  intro x look N ck
  refine @bc _ fun k_ => ?_
  obtain ⟨as, ⟨p, e0_⟩, c⟩ := chk_ok ck
  apply k_; clear k_ ck
  subst e0_
  intro env s W H r A Q X Qm Em S F Si h q qx
  refine wpAny_List (ha c S F Si h (fun ys H₁ vs s₁ W₁ e₁ S₁ r₁ h₁ => ?_) qx)
  exact ⟨by rw [← r₁.length]; exact h₁.1, q ys H₁ _ s₁ W₁ _ e₁ S₁ ((made_disp r₁).got S₁) h₁.1 h₁.2⟩
theorem sL_cat {a b : E} (ha : SE cA xA prog w base g₀ o₀ n a) (hb : SE cA xA prog w base g₀ o₀ n b) : SL_ cA xA prog w base g₀ o₀ n (.cat a b) := by
  intro x look N ck
  obtain ⟨y, z, p, e0_, c1, c2⟩ := bin1_eq ck
  clear ck
  subst e0_
  intro env s W H r A Q X Qm Em S F Si h q qx
  refine wpAny_BinOp (ha c1 S F Si h (fun y₁ H₁ v₁ s₁ W₁ e₁ S₁ r₁ h₁ => hb c2 S₁ (F.ext0 e₁) (Si.ext e₁) h₁ (fun y₂ H₂ v₂ s₂ W₂ e₂ S₂ r₂ h₂ => ?_) (qx.at e₁)) qx)
  refine @bc _ fun k_ => ?_
  obtain ⟨xs, hxs, h₂⟩ := optB h₂
  obtain ⟨ys, hys, h₂⟩ := optB h₂
  apply k_; clear k_
  exact wpAny_mono (lst_add S₂ (e₂.rep r₁) r₂ hxs hys (by rw [← List.length_append]; exact h₂.1)) (fun v' s' m => q _ _ _ _ _ _ (e₁.trans e₂) S₂ (m.got S₂) h₂.1 h₂.2) fun _ _ x => x
theorem sL_rep {a b : E} (ha : SE cA xA prog w base g₀ o₀ n a) (hb : SE cA xA prog w base g₀ o₀ n b) : SL_ cA xA prog w base g₀ o₀ n (.rep a b) := by
  intro x look N ck
  obtain ⟨y, z, p, e0_, c1, c2⟩ := bin1_eq ck
  clear ck
  subst e0_
  intro env s W H r A Q X Qm Em S F Si h q qx
  refine wpAny_BinOp (ha c1 S F Si h (fun y₁ H₁ v₁ s₁ W₁ e₁ S₁ r₁ h₁ => hb c2 S₁ (F.ext0 e₁) (Si.ext e₁) h₁ (fun y₂ H₂ v₂ s₂ W₂ e₂ S₂ r₂ h₂ => ?_) (qx.at e₁)) qx)
  refine @bc _ fun k_ => ?_
  obtain ⟨xs, hxs, h₂⟩ := optB h₂
  obtain ⟨⟨z, hz⟩, _, h₂⟩ := optB h₂
  obtain ⟨k, hk, h₂⟩ := optB h₂
  apply k_; clear k_
  rw [intV_eq hk] at r₂
  rw [hz] at hxs
  exact wpAny_mono (lst_rep S₂ (e₂.rep r₁) r₂ hxs h₂.1.2 (by have := h₂.1.1; (first | lia | omega))) (fun v' s' m => q _ _ _ _ _ _ (e₁.trans e₂) S₂ (m.got S₂) h₂.2.1 h₂.2.2) fun _ _ x => x
theorem gotE {o : Option Expr} {z : Expr} (h : o = some z) : o = some z := h
theorem isSlc_ok {look : Str → Option NameKind} {N : List Str} {a l u : E} {x : Expr} (ck : isL look N (.slc a l u) x = true) : ∃ y z v p q, x = .Subscript y (.Slice (some z) (some v) none p) q ∧ isE look N a y = true ∧ isE look N l z = true ∧ isE look N u v = true := by
  refine @bc _ fun k_ => ?_
  obtain ⟨⟨y, l, u, s⟩, ⟨p, q, e⟩, c⟩ := chk_ok ck
  obtain ⟨z, hz, c⟩ := chk_ok c
  obtain ⟨v, hv, c⟩ := chk_ok c
  obtain ⟨c1, c⟩ := and_ok c
  obtain ⟨c2, c3⟩ := and_ok c
  apply k_; clear k_
  have hs : s = none := some_ok c1
  have hz : l = some z := hz
  have hv : u = some v := hv
  exact ⟨y, z, v, p, q, by rw [e, hz, hv, hs], c2, and_ok c3⟩
theorem isFrm_ok {look : Str → Option NameKind} {N : List Str} {a l : E} {x : Expr} (ck : isL look N (.frm a l) x = true) : ∃ y z p q, x = .Subscript y (.Slice (some z) none none p) q ∧ isE look N a y = true ∧ isE look N l z = true := by
  refine @bc _ fun k_ => ?_
  obtain ⟨⟨y, l, u, s⟩, ⟨p, q, e⟩, c⟩ := chk_ok ck
  obtain ⟨z, hz, c⟩ := chk_ok c
  obtain ⟨c1, c⟩ := and_ok c
  obtain ⟨c2, c3⟩ := and_ok c
  apply k_; clear k_
  have hs : s = none := some_ok c2
  have hz : l = some z := hz
  have hv : u = none := some_ok c1
  exact ⟨y, z, p, q, by rw [e, hz, hv, hs], and_ok c3⟩
theorem isUpt_ok {look : Str → Option NameKind} {N : List Str} {a u : E} {x : Expr} (ck : isL look N (.upt a u) x = true) : ∃ y v p q, x = .Subscript y (.Slice none (some v) none p) q ∧ isE look N a y = true ∧ isE look N u v = true := by
  refine @bc _ fun k_ => ?_
  obtain ⟨⟨y, l, u, s⟩, ⟨p, q, e⟩, c⟩ := chk_ok ck
  obtain ⟨v, hv, c⟩ := chk_ok c
  obtain ⟨c1, c⟩ := and_ok c
  obtain ⟨c2, c3⟩ := and_ok c
  apply k_; clear k_
  have hs : s = none := some_ok c2
  have hz : l = none := some_ok c1
  have hv : u = some v := hv
  exact ⟨y, v, p, q, by rw [e, hz, hv, hs], and_ok c3⟩
theorem isRev_ok {look : Str → Option NameKind} {N : List Str} {a : E} {x : Expr} (ck : isL look N (.rev a) x = true) : ∃ y v p q, x = .Subscript y (.Slice none none (some v) p) q ∧ IsInt v (-1) ∧ isE look N a y = true := by
  refine @bc _ fun k_ => ?_
  obtain ⟨⟨y, l, u, s⟩, ⟨p, q, e⟩, c⟩ := chk_ok ck
  obtain ⟨v, hv, c⟩ := chk_ok c
  obtain ⟨c1, c⟩ := and_ok c
  obtain ⟨c2, c⟩ := and_ok c
  obtain ⟨c3, c4⟩ := and_ok c
  apply k_; clear k_
  have hz : l = none := some_ok c1
  have hs : u = none := some_ok c2
  have hv : s = some v := hv
  exact ⟨y, v, p, q, by rw [e, hz, hv, hs], asInt_ok c3, c4⟩
theorem sL_slc {a l u : E} (ha : SE cA xA prog w base g₀ o₀ n a) (hl : SE cA xA prog w base g₀ o₀ n l) (hu : SE cA xA prog w base g₀ o₀ n u) : SL_ cA xA prog w base g₀ o₀ n (.slc a l u) := by
  intro x look N ck
  refine @bc _ fun k_ => ?_
  obtain ⟨y, z, v, p, p', e0_, c1, c2, c3⟩ := isSlc_ok ck
  apply k_; clear k_ ck
  subst e0_
  intro env s W H r A Q X Qm Em S F Si h q qx
  refine ev_slice (ha c1 S F Si h (fun y₁ H₁ v₁ s₁ W₁ e₁ S₁ r₁ h₁ => hl c2 S₁ (F.ext0 e₁) (Si.ext e₁) h₁ (fun y₂ H₂ v₂ s₂ W₂ e₂ S₂ r₂ h₂ => ?_) (qx.at e₁)) qx)
  have e₁₂ := e₁.trans e₂
  refine hu c3 S₂ (F.ext0 e₁₂) (Si.ext e₁₂) h₂ (fun y₃ H₃ v₃ s₃ W₃ e₃ S₃ r₃ h₃ => ?_) (qx.at e₁₂)
  refine wpAny_pure ?_
  refine @bc _ fun k_ => ?_
  obtain ⟨xs, hxs, h₃⟩ := optB h₃
  obtain ⟨lo, hlo, h₃⟩ := optB h₃
  obtain ⟨hi, hhi, h₃⟩ := optB h₃
  apply k_; clear k_
  rw [intV_eq hlo] at r₂
  rw [intV_eq hhi] at r₃
  refine @bc _ fun k_ => ?_
  obtain ⟨ad, vs, e0_, hl, hn, rq⟩ := itemsV_at S₃ ((e₂.trans e₃).rep r₁) hxs
  apply k_; clear k_
  subst e0_
  obtain ⟨t₂, rfl⟩ := e₃.rep r₂
  obtain ⟨t₃, rfl⟩ := r₃
  refine ⟨ad, vs.toArray, some lo, some hi, none, rfl, hl.isList, by rw [List.size_toArray]; exact hn, .int _ _, .int _ _, .none, by simp, ?_⟩
  have hlen := rq.length
  have hp : slicePick vs.toArray (some lo) (some hi) none = (((vs.take (clip vs.length hi)).drop (clip vs.length lo))).toArray := by
    rw [slicePick_plain]
    simp only [Option.elim, clipAt_eq, List.size_toArray]
    simp only [List.drop_take]
  rw [hp]
  refine q (pySlice xs lo hi) H₃ _ s₃ W₃ _ (e₁₂.trans e₃) S₃ (Made.got S₃ (made_slice ?_ ?_)) h₃.1 h₃.2
  · unfold pySlice; rw [hlen]; simp [hlen]
  · unfold pySlice; rw [hlen]; exact (rq.take cA _).drop cA _
theorem sL_frm {a l : E} (ha : SE cA xA prog w base g₀ o₀ n a) (hl : SE cA xA prog w base g₀ o₀ n l) : SL_ cA xA prog w base g₀ o₀ n (.frm a l) := by
  intro x look N ck
  refine @bc _ fun k_ => ?_
  obtain ⟨y, z, p, p', e0_, c1, c2⟩ := isFrm_ok ck
  apply k_; clear k_ ck
  subst e0_
  intro env s W H r A Q X Qm Em S F Si h q qx
  refine ev_slice (ha c1 S F Si h (fun y₁ H₁ v₁ s₁ W₁ e₁ S₁ r₁ h₁ => hl c2 S₁ (F.ext0 e₁) (Si.ext e₁) h₁ (fun y₂ H₂ v₂ s₂ W₂ e₂ S₂ r₂ h₂ => ?_) (qx.at e₁)) qx)
  have e₁₂ := e₁.trans e₂
  refine wpAny_pure (wpAny_pure ?_)
  refine @bc _ fun k_ => ?_
  obtain ⟨xs, hxs, h₂⟩ := optB h₂
  obtain ⟨lo, hi_, h₂⟩ := optB h₂
  apply k_; clear k_
  rw [intV_eq hi_] at r₂
  refine @bc _ fun k_ => ?_
  obtain ⟨ad, vs, e0_, hl, hn, rq⟩ := itemsV_at S₂ (e₂.rep r₁) hxs
  apply k_; clear k_
  subst e0_
  obtain ⟨t₂, rfl⟩ := r₂
  refine ⟨ad, vs.toArray, some lo, none, none, rfl, hl.isList, by rw [List.size_toArray]; exact hn, .int _ _, .none, .none, by simp, ?_⟩
  have hlen := rq.length
  have hp : slicePick vs.toArray (some lo) none none = (vs.drop (clip vs.length lo)).toArray := by
    rw [slicePick_plain]
    simp only [Option.elim, clipAt_eq, List.size_toArray]
    rw [List.take_of_length_le (by simp)]
  rw [hp]
  refine q (xs.drop (clip xs.length lo)) H₂ _ s₂ W₂ _ e₁₂ S₂ (Made.got S₂ (made_slice ?_ ?_)) h₂.1 h₂.2
  · rw [hlen]; simp [hlen]
  · rw [hlen]; exact rq.drop cA _
theorem sL_upt {a u : E} (ha : SE cA xA prog w base g₀ o₀ n a) (hu : SE cA xA prog w base g₀ o₀ n u) : SL_ cA xA prog w base g₀ o₀ n (.upt a u) := by
  intro x look N ck
  refine @bc _ fun k_ => ?_
  obtain ⟨y, v, p, p', e0_, c1, c2⟩ := isUpt_ok ck
  apply k_; clear k_ ck
  subst e0_
  intro env s W H r A Q X Qm Em S F Si h q qx
  refine ev_slice (ha c1 S F Si h (fun y₁ H₁ v₁ s₁ W₁ e₁ S₁ r₁ h₁ => ?_) qx)
  refine wpAny_pure (hu c2 S₁ (F.ext0 e₁) (Si.ext e₁) h₁ (fun y₂ H₂ v₂ s₂ W₂ e₂ S₂ r₂ h₂ => ?_) (qx.at e₁))
  have e₁₂ := e₁.trans e₂
  refine wpAny_pure ?_
  refine @bc _ fun k_ => ?_
  obtain ⟨xs, hxs, h₂⟩ := optB h₂
  obtain ⟨hi, hi_, h₂⟩ := optB h₂
  apply k_; clear k_
  rw [intV_eq hi_] at r₂
  refine @bc _ fun k_ => ?_
  obtain ⟨ad, vs, e0_, hl, hn, rq⟩ := itemsV_at S₂ (e₂.rep r₁) hxs
  apply k_; clear k_
  subst e0_
  obtain ⟨t₂, rfl⟩ := r₂
  refine ⟨ad, vs.toArray, none, some hi, none, rfl, hl.isList, by rw [List.size_toArray]; exact hn, .none, .int _ _, .none, by simp, ?_⟩
  have hlen := rq.length
  have hp : slicePick vs.toArray none (some hi) none = (vs.take (clip vs.length hi)).toArray := by
    rw [slicePick_plain]
    simp only [Option.elim, clipAt_eq, List.size_toArray, List.drop_zero, Nat.sub_zero]
  rw [hp]
  refine q (xs.take (clip xs.length hi)) H₂ _ s₂ W₂ _ e₁₂ S₂ (Made.got S₂ (made_slice ?_ ?_)) h₂.1 h₂.2
  · rw [hlen]; simp [hlen]
  · rw [hlen]; exact rq.take cA _
theorem sL_rev {a : E} (ha : SE cA xA prog w base g₀ o₀ n a) : SL_ cA xA prog w base g₀ o₀ n (.rev a) := by
  intro x look N ck
  refine @bc _ fun k_ => ?_
  obtain ⟨y, v, p, p', e0_, c1, c2⟩ := isRev_ok ck
  apply k_; clear k_ ck
  subst e0_
  intro env s W H r A Q X Qm Em S F Si h q qx
  refine ev_slice (ha c2 S F Si h (fun y₁ H₁ v₁ s₁ W₁ e₁ S₁ r₁ h₁ => ?_) qx)
  refine wpAny_pure (wpAny_pure (int_of c1 fun t t' => ?_))
  refine @bc _ fun k_ => ?_
  obtain ⟨xs, hxs, h₁⟩ := optB h₁
  obtain ⟨ad, vs, e0_, hl, hn, rq⟩ := itemsV_at S₁ r₁ hxs
  apply k_; clear k_
  subst e0_
  have S₂ : StOk cA prog w base g₀ o₀ { s₁ with toks := t' } W₁ H₁ := S₁.grow (fun _ _ e => e)
  refine ⟨ad, vs.toArray, none, none, some (-1), rfl, hl.isList, by rw [List.size_toArray]; exact hn, .none, .none, .int _ _, by simp, ?_⟩
  rw [krv_pick]
  refine q xs.reverse H₁ _ { s₁ with toks := t' } W₁ _ (e₁.trans (Ext.of_keeps (s' := { s₁ with toks := t' }) fun _ _ e => e)) S₂ (Made.got S₂ (made_slice (vs := vs.reverse) ?_ ?_)) h₁.1 h₁.2
  · simp [rq.length]
  · exact rq.reverse cA
theorem sL_copy (FX : Fix K cA fA xA prog w base g₀ o₀ n) {a : E} (ha : SE cA xA prog w base g₀ o₀ n a) : SL_ cA xA prog w base g₀ o₀ n (.copy a) := by
  intro x look N ck
  obtain ⟨nm, y, p, p', e0_, c1, c2, c3⟩ := call1_eq ck
  clear ck
  subst e0_
  obtain ⟨rfl, hl, _⟩ := isGl_eq c1
  intro env s W H r A Q X Qm Em S F Si h q qx
  refine wpAny_Call_Name_kw (ld_bi (b := .list) FX.KO S F hl ?_)
  refine cw_of (fun _ => True) (by simp [c2]) (nonref_keep (bi_nonref .list)) ?_
  refine wpAny_items_cons (ha c3 S F Si h (fun y₁ H₁ v₁ s₁ W₁ e₁ S₁ r₁ h₁ => wpAny_items_nil ⟨trivial, ?_⟩) qx) (starEach_cons c2)
  refine @bc _ fun k_ => ?_
  obtain ⟨xs, hxs, h₁⟩ := optB h₁
  apply k_; clear k_
  exact wpAny_mono (lst_copy S₁ r₁ hxs) (fun v' s' m => q _ _ _ _ _ _ e₁ S₁ (m.got S₁) h₁.1 h₁.2) fun _ _ x => x
theorem sL_comp {elt cond src : E} {k : Nat} (hs : SE cA xA prog w base g₀ o₀ n src) (he : SE cA xA prog w base g₀ o₀ n elt) (hc : ST cA xA prog w base g₀ o₀ n cond) : SL_ cA xA prog w base g₀ o₀ n (.comp elt cond k src) := by
  intro x look N ck env s W H r A Q X Qm Em S F Si h q qx
  obtain ⟨ex, t, it, c, sc, pos, rfl, hc⟩ := comp_snd (env := env) (pos' := fun _ p => p) hs he hc none (Qm := Qm) ck S F Si h qx fun ys H₁ s₁ W₁ D C s' e₁ S₁ hend hn hq => by
    obtain ⟨m, hm⟩ : ∃ m, s'.heap.Ns C m := by cases hend; exact ⟨_, by assumption⟩
    exact ⟨m, hm, fun h' hs => q ys H₁ _ s₁ W₁ _ e₁ S₁ (hend.got S₁ hs) hn hq⟩
  exact hc _
theorem sT_plain {e : E} (hE : SE cA xA prog w base g₀ o₀ n e) (hp : ∀ {x : Expr} {look : Str → Option NameKind} {N : List Str}, isE look N e x = true → plainT x = true) : ST cA xA prog w base g₀ o₀ n e := by
  intro x look N ck env s W H r A P Q X Qm Em S F Si h hP q qx
  refine PyProof.Rows.isTrue_plain (hE ck S F Si h (fun y₁ H₁ v₁ s₁ W₁ e₁ S₁ r₁ h₁ => ?_) qx) (isTrue_shape (hp ck))
  obtain ⟨c, rfl, hq⟩ := boolB (hP _ _ h₁)
  obtain rfl := rep_bool r₁
  exact wpAny_truthy_bool (q _ _ _ _ e₁ S₁ hq)
theorem sT_not {a : E} (ha : ST cA xA prog w base g₀ o₀ n a) : ST cA xA prog w base g₀ o₀ n (.op1 .not_ a) := by
  intro x look N ck
  refine @bc _ fun k_ => ?_
  obtain ⟨⟨u, y⟩, ⟨p, e0_⟩, c⟩ := chk_ok ck
  apply k_; clear k_ ck
  subst e0_
  obtain ⟨c1, c2⟩ := and_ok c
  have c1 := some_ok c1
  dsimp only at c1 c2
  subst c1
  intro env s W H r A P Q X Qm Em S F Si h hP q qx
  refine isTrue_not (ha c2 (Q := fun b H => Q (!b) H) S F Si (show wpE (callAt defs n) X r a H fun x H => optP (ev1 H .not_ x) fun z => P z H from h) (fun v H hv => ?_) (fun c H₁ s₁ W₁ e₁ S₁ h₁ => q _ _ _ _ e₁ S₁ h₁) qx)
  refine @bc _ fun k_ => ?_
  obtain ⟨z, hz, hq⟩ := optB hv
  obtain ⟨b, hb, e0_⟩ := map_is hz
  apply k_; clear k_
  subst e0_
  rw [boolV_eq hb]
  exact hP _ _ hq
theorem bool_rest' {P : V → St → Prop} {Q : Bool → St → Prop} (hP : ∀ v H, P v H → boolP v fun b => Q b H) (v : V) (H : St) (h : boolP v fun b => P (.bool b) H) : boolP v fun b => Q b H := by
  obtain ⟨b, rfl, h⟩ := boolB h
  exact hP _ _ h
theorem sT_and {a b : E} (ha : ST cA xA prog w base g₀ o₀ n a) (hb : ST cA xA prog w base g₀ o₀ n b) : ST cA xA prog w base g₀ o₀ n (.and_ a b) := by
  intro x look N ck
  obtain ⟨o, y, z, y', rr, p, ho, e0_, hr, c1, c2⟩ := bool1_eq ck
  clear ck
  subst e0_
  obtain rfl := isAnd_ok ho
  intro env s W H r A P Q X Qm Em S F Si h hP q qx
  refine isTrue_and (ha c1 (Q := fun b' H => if b' then wpE (callAt defs n) X r b H (fun v H => boolP v fun b => P (.bool b) H) else P (.bool false) H) S F Si h (fun _ _ h => h) (fun c H₁ s₁ W₁ e₁ S₁ h₁ => ?_) qx)
  cases c
  · exact q _ _ _ _ e₁ S₁ (hP _ _ h₁)
  · exact true_rest hr (hb c2 S₁ (F.ext0 e₁) (Si.ext e₁) h₁ (bool_rest' hP) (fun c H₂ s₂ W₂ e₂ S₂ h₂ => q _ _ _ _ (e₁.trans e₂) S₂ h₂) (qx.at e₁))
theorem sT_or {a b : E} (ha : ST cA xA prog w base g₀ o₀ n a) (hb : ST cA xA prog w base g₀ o₀ n b) : ST cA xA prog w base g₀ o₀ n (.or_ a b) := by
  intro x look N ck
  obtain ⟨o, y, z, y', rr, p, ho, e0_, hr, c1, c2⟩ := bool1_eq ck
  clear ck
  subst e0_
  obtain rfl := isOr_ok ho
  intro env s W H r A P Q X Qm Em S F Si h hP q qx
  refine isTrue_or (ha c1 (Q := fun b' H => if b' then P (.bool true) H else wpE (callAt defs n) X r b H (fun v H => boolP v fun b => P (.bool b) H)) S F Si h (fun _ _ h => h) (fun c H₁ s₁ W₁ e₁ S₁ h₁ => ?_) qx)
  cases c
  · exact true_rest hr (hb c2 S₁ (F.ext0 e₁) (Si.ext e₁) h₁ (bool_rest' hP) (fun c H₂ s₂ W₂ e₂ S₂ h₂ => q _ _ _ _ (e₁.trans e₂) S₂ h₂) (qx.at e₁))
  · exact q _ _ _ _ e₁ S₁ (hP _ _ h₁)
theorem sT_chain {a b c : E} (ha : SE cA xA prog w base g₀ o₀ n a) (hb : SE cA xA prog w base g₀ o₀ n b) (hc : SE cA xA prog w base g₀ o₀ n c) : ST cA xA prog w base g₀ o₀ n (.chain a b c) := by
  intro x look N ck
  refine @bc _ fun k_ => ?_
  obtain ⟨y, z, u, p, e0_, hm, c1, c2, c3⟩ := isChain_ok ck
  apply k_; clear k_ ck
  subst e0_
  intro env s W H r A P Q X Qm Em S F Si h hP q qx
  have R0 : Room A 0 := Si.room.le (Nat.zero_le _)
  refine isTrue_chain (ha c1 S F Si h (fun y₁ H₁ v₁ s₁ W₁ e₁ S₁ r₁ h₁ => ?_) qx) hm
  refine test_link (hb c2 S₁ (F.ext0 e₁) (Si.ext e₁) h₁ (fun y₂ H₂ v₂ s₂ W₂ e₂ S₂ r₂ h₂ => ?_) (qx.at e₁))
  refine @bc _ fun k_ => ?_
  obtain ⟨zz, hz, hq⟩ := optB h₂
  obtain ⟨c', e0_, h₂⟩ := boolB hq
  apply k_; clear k_
  subst e0_
  refine wpAny_mono (cmp2 S₂ R0 rfl (e₂.rep r₁) r₂ hz) (fun v' s' o => ?_) fun _ _ x => x
  refine @bc _ fun k_ => ?_
  obtain ⟨o1, o2, o3⟩ := o
  apply k_; clear k_
  obtain rfl := rep_bool o3
  refine wpAny_truthy_bool ?_
  have e₃ := (e₁.trans e₂).trans o1
  cases c'
  · exact q _ _ _ _ e₃ o2 (hP _ _ h₂)
  · refine test_last (hc c3 o2 (F.ext0 e₃) (Si.ext e₃) h₂ (fun y₃ H₃ v₃ s₃ W₃ e₄ S₃ r₃ h₃ => ?_) (qx.at e₃))
    refine @bc _ fun k_ => ?_
    obtain ⟨zz, hz, hq⟩ := optB h₃
    obtain ⟨c'', e0_, hb2⟩ := boolB (hP _ _ hq)
    apply k_; clear k_
    subst e0_
    refine wpAny_mono (cmp2 S₃ R0 rfl (o1.trans e₄ |>.rep r₂) r₃ hz) (fun v' s' o => ?_) fun _ _ x => x
    obtain rfl := rep_bool o.2.2
    exact wpAny_truthy_bool (q _ _ _ _ ((e₃.trans e₄).trans o.1) o.2.1 hb2)
theorem sT_isNone {a : E} (ha : SE cA xA prog w base g₀ o₀ n a) : ST cA xA prog w base g₀ o₀ n (.op1 .isNone a) := by
  intro x look N ck
  obtain ⟨y, z, p, e0_, hm, c1, c2⟩ := cmp1_eq ck
  clear ck
  subst e0_
  obtain ⟨k', p', rfl⟩ := isC_eq c2
  intro env s W H r A P Q X Qm Em S F Si h hP q qx
  refine wpAny_isTrue_Compare1 (ha c1 S F Si h (fun y₁ H₁ v s₁ W₁ e₁ S₁ r₁ h₁ => wpAny_Constant_none ?_) qx) hm
  refine @bc _ fun k_ => ?_
  obtain ⟨z, hz, hq⟩ := optB h₁
  obtain ⟨c'', e0_, hb2⟩ := boolB (hP _ _ hq)
  apply k_; clear k_
  subst e0_
  refine wpAny_mono (un_isNone S₁ r₁ hz) (fun v' s' o => ?_) fun _ _ x => x
  obtain rfl := rep_bool o.2.2
  exact wpAny_truthy_bool (q _ _ _ _ (e₁.trans o.1) o.2.1 hb2)
theorem sT_notNone {a : E} (ha : SE cA xA prog w base g₀ o₀ n a) : ST cA xA prog w base g₀ o₀ n (.op1 .notNone a) := by
  intro x look N ck
  obtain ⟨y, z, p, e0_, hm, c1, c2⟩ := cmp1_eq ck
  clear ck
  subst e0_
  obtain ⟨k', p', rfl⟩ := isC_eq c2
  intro env s W H r A P Q X Qm Em S F Si h hP q qx
  refine wpAny_isTrue_Compare1 (ha c1 S F Si h (fun y₁ H₁ v s₁ W₁ e₁ S₁ r₁ h₁ => wpAny_Constant_none ?_) qx) hm
  refine @bc _ fun k_ => ?_
  obtain ⟨z, hz, hq⟩ := optB h₁
  obtain ⟨c'', e0_, hb2⟩ := boolB (hP _ _ hq)
  apply k_; clear k_
  subst e0_
  refine wpAny_mono (un_notNone S₁ r₁ hz) (fun v' s' o => ?_) fun _ _ x => x
  obtain rfl := rep_bool o.2.2
  exact wpAny_truthy_bool (q _ _ _ _ (e₁.trans o.1) o.2.1 hb2)
theorem sT_cmp {o : Op2} {p : CmpOp} {a b : E} (hp : o.cmp = some p) (ha : SE cA xA prog w base g₀ o₀ n a) (hb : SE cA xA prog w base g₀ o₀ n b) (hi : ∀ {look N x}, isE look N (.op2 o a b) x = true → cmp1 p (fun y => isE look N a y) (fun y => isE look N b y) x = true) : ST cA xA prog w base g₀ o₀ n (.op2 o a b) := by
  intro x look N ck
  obtain ⟨y, z, pp, e0_, hm, c1, c2⟩ := cmp1_eq (hi ck)
  clear ck
  subst e0_
  intro env s W H r A P Q X Qm Em S F Si h hP q qx
  have R0 : Room A 0 := Si.room.le (Nat.zero_le _)
  refine wpAny_isTrue_Compare1 (ha c1 S F Si (show wpE (callAt defs n) X r a H fun x H => wpE (callAt defs n) X r b H fun y H => optP (ev2 H o x y) fun z => P z H from h) (fun y₁ H₁ v₁ s₁ W₁ e₁ S₁ r₁ h₁ => hb c2 S₁ (F.ext0 e₁) (Si.ext e₁) h₁ (fun y₂ H₂ v₂ s₂ W₂ e₂ S₂ r₂ h₂ => ?_) (qx.at e₁)) qx) hm
  refine @bc _ fun k_ => ?_
  obtain ⟨zz, hz, hq⟩ := optB h₂
  obtain ⟨c'', e0_, hb2⟩ := boolB (hP _ _ hq)
  apply k_; clear k_
  subst e0_
  refine wpAny_mono (cmp2 S₂ R0 hp (e₂.rep r₁) r₂ hz) (fun v' s' o => ?_) fun _ _ x => x
  obtain rfl := rep_bool o.2.2
  exact wpAny_truthy_bool (q _ _ _ _ ((e₁.trans e₂).trans o.1) o.2.1 hb2)
theorem sT_ite {t a b : E} (ht : ST cA xA prog w base g₀ o₀ n t) (ha : ST cA xA prog w base g₀ o₀ n a) (hb : ST cA xA prog w base g₀ o₀ n b) : ST cA xA prog w base g₀ o₀ n (.ite t a b) := by
  intro x look N ck
  obtain ⟨y, z, u, p, e0_, c1, c2, c3⟩ := isIf_ok ck
  clear ck
  subst e0_
  intro env s W H r A P Q X Qm Em S F Si h hP q qx
  refine isTrue_IfExp (ht c1 (Q := fun b' H => if b' then wpE (callAt defs n) X r a H P else wpE (callAt defs n) X r b H P) S F Si h (fun _ _ h => h) (fun c H₁ s₁ W₁ e₁ S₁ h₁ => ?_) qx)
  cases c
  · exact hb c3 S₁ (F.ext0 e₁) (Si.ext e₁) h₁ hP (fun c H₂ s₂ W₂ e₂ S₂ h₂ => q _ _ _ _ (e₁.trans e₂) S₂ h₂) (qx.at e₁)
  · exact ha c2 S₁ (F.ext0 e₁) (Si.ext e₁) h₁ hP (fun c H₂ s₂ W₂ e₂ S₂ h₂ => q _ _ _ _ (e₁.trans e₂) S₂ h₂) (qx.at e₁)
theorem pl_C {c : Const} {x : Expr} (h : isC c x = true) : plainT x = true := by
  obtain ⟨k, p, rfl⟩ := isC_eq h; rfl
theorem pl_call1 {look : Str → Option NameKind} {nm : String} {f : Expr → Bool} {x : Expr} (h : call1 look nm f x = true) : plainT x = true := by
  obtain ⟨_, _, _, _, rfl, _⟩ := call1_eq h; rfl
theorem pl_call2 {look : Str → Option NameKind} {nm : String} {f g : Expr → Bool} {x : Expr} (h : call2 look nm f g x = true) : plainT x = true := by
  obtain ⟨_, _, _, _, _, rfl, _⟩ := call2_eq h; rfl
theorem pl_call3 {look : Str → Option NameKind} {nm : String} {f g k : Expr → Bool} {x : Expr} (h : call3 look nm f g k x = true) : plainT x = true := by
  obtain ⟨_, _, _, _, _, _, rfl, _⟩ := call3_eq h; rfl
theorem pl_bin {o : Operator} {f g : Expr → Bool} {x : Expr} (h : bin1 o f g x = true) : plainT x = true := by
  obtain ⟨_, _, _, rfl, _⟩ := bin1_eq h; rfl
theorem pl_name {f : Str → Bool} {x : Expr} (h : chk (asName' x) f = true) : plainT x = true := by
  obtain ⟨_, ⟨_, rfl⟩, _⟩ := chk_ok h; rfl
theorem pl_callN {f : Str × List Expr → Bool} {x : Expr} (h : chk (asCallN x) f = true) : plainT x = true := by
  obtain ⟨_, ⟨_, _, rfl⟩, _⟩ := chk_ok h; rfl
theorem pl_callM {f : Expr × Str × List Expr → Bool} {x : Expr} (h : chk (asCallM x) f = true) : plainT x = true := by
  obtain ⟨_, ⟨_, _, rfl, _⟩, _⟩ := chk_ok h; rfl
theorem pl_slice {f : Expr × Option Expr × Option Expr × Option Expr → Bool} {x : Expr} (h : chk (asSlice x) f = true) : plainT x = true := by
  obtain ⟨_, ⟨_, _, rfl⟩, _⟩ := chk_ok h; rfl
theorem pl_int {f : Int → Bool} {x : Expr} (h : chk (asInt x) f = true) : plainT x = true := by
  obtain ⟨_, q, _⟩ := chk_ok h
  rcases q with ⟨_, _, rfl⟩ | ⟨_, _, _, rfl, _⟩ | ⟨_, _, _, _, _, rfl, _⟩ <;> rfl
theorem pl_dict {x : Expr} (h : (asDict x).isSome = true) : plainT x = true := by
  obtain ⟨_, rfl⟩ := some_ok h; rfl
theorem pl_L {look : Str → Option NameKind} {N : List Str} (l : L) {x : Expr} (ck : isL look N l x = true) : plainT x = true := by
  cases l with
  | disp => obtain ⟨_, ⟨_, rfl⟩, _⟩ := chk_ok ck; rfl
  | cat => exact pl_bin ck
  | rep => exact pl_bin ck
  | slc => exact pl_slice ck
  | frm => exact pl_slice ck
  | upt => exact pl_slice ck
  | rev => exact pl_slice ck
  | copy => exact pl_call1 ck
  | comp => obtain ⟨_, ⟨_, _, rfl, _⟩, _⟩ := chk_ok ck; rfl
theorem s1b (FX : Fix K cA fA xA prog w base g₀ o₀ n) {o : Op1} {b : Bi} {a : E} (hp : o.bi = some b) (ha : SE cA xA prog w base g₀ o₀ n a) (hi : ∀ {look N x}, isE look N (.op1 o a) x = true → call1 look b.name (fun y => isE look N a y) x = true) : SE cA xA prog w base g₀ o₀ n (.op1 o a) ∧ ST cA xA prog w base g₀ o₀ n (.op1 o a) :=
  ⟨sE_bi1 FX hp ha hi, sT_plain (sE_bi1 FX hp ha hi) fun h => pl_call1 (hi h)⟩
theorem s1 (FX : Fix K cA fA xA prog w base g₀ o₀ n) (o : Op1) {a : E} (ha : SE cA xA prog w base g₀ o₀ n a ∧ ST cA xA prog w base g₀ o₀ n a) : SE cA xA prog w base g₀ o₀ n (.op1 o a) ∧ ST cA xA prog w base g₀ o₀ n (.op1 o a) := by
  cases o with
  | neg => exact ⟨sE_neg ha.1, sT_plain (sE_neg ha.1) fun h => by
      obtain ⟨⟨u, y⟩, ⟨p, e0_⟩, c⟩ := chk_ok h
      clear h
      subst e0_
      have c1 := some_ok (and_ok c).1
      dsimp only at c1
      subst c1
      rfl⟩
  | not_ => exact ⟨sE_not_ ha.1, sT_not ha.2⟩
  | isNone => exact ⟨sE_isNone ha.1, sT_isNone ha.1⟩
  | notNone => exact ⟨sE_notNone ha.1, sT_notNone ha.1⟩
  | fld c i => exact ⟨sE_fld FX ha.1, sT_plain (sE_fld FX ha.1) fun h => by obtain ⟨_, ⟨_, rfl, _⟩, _⟩ := chk_ok h; rfl⟩
  | len => exact s1b FX (o := .len) (b := .len) rfl ha.1 id
  | abs => exact s1b FX (o := .abs) (b := .abs) rfl ha.1 id
  | sum => exact s1b FX (o := .sum) (b := .sum) rfl ha.1 id
  | sorted => exact s1b FX (o := .sorted) (b := .sorted) rfl ha.1 id
  | range => exact s1b FX (o := .range) (b := .range) rfl ha.1 id
theorem s2b {o : Op2} {p : Operator} {a b : E} (hp : o.bin = some p) (ha : SE cA xA prog w base g₀ o₀ n a) (hb : SE cA xA prog w base g₀ o₀ n b) (hi : ∀ {look N x}, isE look N (.op2 o a b) x = true → bin1 p (fun y => isE look N a y) (fun y => isE look N b y) x = true) : SE cA xA prog w base g₀ o₀ n (.op2 o a b) ∧ ST cA xA prog w base g₀ o₀ n (.op2 o a b) :=
  ⟨sE_bin hp ha hb hi, sT_plain (sE_bin hp ha hb hi) fun h => pl_bin (hi h)⟩
theorem s2c {o : Op2} {p : CmpOp} {a b : E} (hp : o.cmp = some p) (ha : SE cA xA prog w base g₀ o₀ n a) (hb : SE cA xA prog w base g₀ o₀ n b) (hi : ∀ {look N x}, isE look N (.op2 o a b) x = true → cmp1 p (fun y => isE look N a y) (fun y => isE look N b y) x = true) : SE cA xA prog w base g₀ o₀ n (.op2 o a b) ∧ ST cA xA prog w base g₀ o₀ n (.op2 o a b) :=
  ⟨sE_cmp hp ha hb hi, sT_cmp hp ha hb hi⟩
theorem s2i (FX : Fix K cA fA xA prog w base g₀ o₀ n) {o : Op2} {b' : Bi} {a b : E} (hp : o.bi = some b') (ha : SE cA xA prog w base g₀ o₀ n a) (hb : SE cA xA prog w base g₀ o₀ n b) (hi : ∀ {look N x}, isE look N (.op2 o a b) x = true → call2 look b'.name (fun y => isE look N a y) (fun y => isE look N b y) x = true) : SE cA xA prog w base g₀ o₀ n (.op2 o a b) ∧ ST cA xA prog w base g₀ o₀ n (.op2 o a b) :=
  ⟨sE_bi2 FX hp ha hb hi, sT_plain (sE_bi2 FX hp ha hb hi) fun h => pl_call2 (hi h)⟩
theorem s2 (FX : Fix K cA fA xA prog w base g₀ o₀ n) (o : Op2) {a b : E} (ha : SE cA xA prog w base g₀ o₀ n a) (hb : SE cA xA prog w base g₀ o₀ n b) : SE cA xA prog w base g₀ o₀ n (.op2 o a b) ∧ ST cA xA prog w base g₀ o₀ n (.op2 o a b) := by
  cases o with
  | add => exact s2b (p := .Add) rfl ha hb id
  | sub => exact s2b (p := .Sub) rfl ha hb id
  | mul => exact s2b (p := .Mult) rfl ha hb id
  | fdiv => exact s2b (p := .FloorDiv) rfl ha hb id
  | mod => exact s2b (p := .Mod) rfl ha hb id
  | lt => exact s2c (p := .Lt) rfl ha hb id
  | le => exact s2c (p := .LtE) rfl ha hb id
  | gt => exact s2c (p := .Gt) rfl ha hb id
  | ge => exact s2c (p := .GtE) rfl ha hb id
  | eq => exact s2c (p := .Eq) rfl ha hb id
  | ne => exact s2c (p := .NotEq) rfl ha hb id
  | in_ => exact s2c (p := .In) rfl ha hb id
  | nin => exact s2c (p := .NotIn) rfl ha hb id
  | min => exact s2i FX (b' := .min) rfl ha hb id
  | max => exact s2i FX (b' := .max) rfl ha hb id
  | idx => exact ⟨sE_idx ha hb, sT_plain (sE_idx ha hb) fun h => by obtain ⟨_, ⟨_, rfl, _⟩, _⟩ := chk_ok h; rfl⟩
  | index => exact ⟨sE_index ha, sT_plain (sE_index ha) fun h => by obtain ⟨y, z, ⟨_, _, rfl, _⟩, _⟩ := meth1_eq (and_ok h).2; rfl⟩
mutual
theorem soundB (FX : Fix K cA fA xA prog w base g₀ o₀ n) : ∀ e : E, SE cA xA prog w base g₀ o₀ n e ∧ ST cA xA prog w base g₀ o₀ n e
  | .bad => ⟨sE_bad, sT_bad⟩
  | .v i => ⟨sE_v i, sT_plain (e := .v i) (sE_v i) pl_name⟩
  | .none => ⟨sE_none, sT_plain (e := .none) sE_none pl_C⟩
  | .bool b => ⟨sE_bool b, sT_plain (e := .bool b) (sE_bool b) pl_C⟩
  | .int i => ⟨sE_int i, sT_plain (e := .int i) (sE_int i) pl_int⟩
  | .word i => ⟨sE_word i, sT_plain (e := .word i) (sE_word i) pl_C⟩
  | .glob g => ⟨sE_glob FX g, sT_plain (e := .glob g) (sE_glob FX g) pl_name⟩
  | .edict => ⟨sE_edict FX, sT_plain (e := .edict) (sE_edict FX) pl_dict⟩
  | .op1 o a => s1 FX o (soundB FX a)
  | .op2 o a b => s2 FX o (soundB FX a).1 (soundB FX b).1
  | .op3 .get a b c => have h : SE cA xA prog w base g₀ o₀ n (.op3 .get a b c) := sE_get (soundB FX a).1 (soundB FX b).1 (soundB FX c).1; ⟨h, sT_plain (e := .op3 .get a b c) h pl_callM⟩
  | .op3 .range a b c => have h : SE cA xA prog w base g₀ o₀ n (.op3 .range a b c) := sE_range FX (soundB FX a).1 (soundB FX b).1 (soundB FX c).1; ⟨h, sT_plain (e := .op3 .range a b c) h pl_call3⟩
  | .ite t a b => ⟨sE_ite (soundB FX t).2 (soundB FX a).1 (soundB FX b).1, sT_ite (soundB FX t).2 (soundB FX a).2 (soundB FX b).2⟩
  | .and_ a b => ⟨sE_and (soundB FX a).1 (soundB FX b).1, sT_and (soundB FX a).2 (soundB FX b).2⟩
  | .or_ a b => ⟨sE_or (soundB FX a).1 (soundB FX b).1, sT_or (soundB FX a).2 (soundB FX b).2⟩
  | .chain a b c => ⟨sE_chain (soundB FX a).1 (soundB FX b).1 (soundB FX c).1, sT_chain (soundB FX a).1 (soundB FX b).1 (soundB FX c).1⟩
  | .call f args => have h : SE cA xA prog w base g₀ o₀ n (.call f args) := sE_call FX (f := f) (soundEs FX args); ⟨h, sT_plain (e := .call f args) h pl_callN⟩
  | .meth f o args => have h : SE cA xA prog w base g₀ o₀ n (.meth f o args) := sE_meth FX (f := f) (soundB FX o).1 (soundEs FX args); ⟨h, sT_plain (e := .meth f o args) h pl_callM⟩
  | .new c t args => have h : SE cA xA prog w base g₀ o₀ n (.new c t args) := sE_new FX (c := c) (t := t) (soundEs FX args); ⟨h, sT_plain (e := .new c t args) h pl_callN⟩
  | .newF c args => have h : SE cA xA prog w base g₀ o₀ n (.newF c args) := sE_newF FX (c := c) (soundEs FX args); ⟨h, sT_plain (e := .newF c args) h pl_callN⟩
  | .tup args => have h : SE cA xA prog w base g₀ o₀ n (.tup args) := sE_tup (soundEs FX args); ⟨h, sT_plain (e := .tup args) h fun h => by obtain ⟨_, ⟨_, _, rfl⟩, _⟩ := chk_ok h; rfl⟩
  | .frz l => have h : SE cA xA prog w base g₀ o₀ n (.frz l) := sE_frz (soundL FX l); ⟨h, sT_plain (e := .frz l) h (pl_L l)⟩
  | .thw t l => have h : SE cA xA prog w base g₀ o₀ n (.thw t l) := sE_thw (soundL FX l); ⟨h, sT_plain (e := .thw t l) h (pl_L l)⟩
  | .thwD t => ⟨sE_thwD FX t, sT_plain (e := .thwD t) (sE_thwD FX t) pl_dict⟩
theorem soundEs (FX : Fix K cA fA xA prog w base g₀ o₀ n) : ∀ es : EL, SEs cA xA prog w base g₀ o₀ n es
  | .nil => sEs_nil
  | .cons e es => sEs_cons (soundB FX e).1 (soundEs FX es)
theorem soundL (FX : Fix K cA fA xA prog w base g₀ o₀ n) : ∀ l : L, SL_ cA xA prog w base g₀ o₀ n l
  | .disp args => sL_disp (soundEs FX args)
  | .cat a b => sL_cat (soundB FX a).1 (soundB FX b).1
  | .rep a b => sL_rep (soundB FX a).1 (soundB FX b).1
  | .slc a l u => sL_slc (soundB FX a).1 (soundB FX l).1 (soundB FX u).1
  | .frm a l => sL_frm (soundB FX a).1 (soundB FX l).1
  | .upt a u => sL_upt (soundB FX a).1 (soundB FX u).1
  | .rev a => sL_rev (soundB FX a).1
  | .copy a => sL_copy FX (soundB FX a).1
  | .comp elt cond k src => sL_comp (soundB FX src).1 (soundB FX elt).1 (soundB FX cond).2
end
theorem soundE (FX : Fix K cA fA xA prog w base g₀ o₀ n) (e : E) : SE cA xA prog w base g₀ o₀ n e := (soundB FX e).1
theorem soundT (FX : Fix K cA fA xA prog w base g₀ o₀ n) (e : E) : ST cA xA prog w base g₀ o₀ n e := (soundB FX e).2
end
end Mine
set_option backward.match.sparseCases false
namespace Mine
open PySem PySem.W PyProof.Rows PySem.SeqAt PySem.Calls
noncomputable def notComp (x : Expr) : Bool := !(x.ctorIdx == 8 || x.ctorIdx == 9 || x.ctorIdx == 10)
noncomputable def notTup (x : Expr) : Bool := !(x.ctorIdx == 25)
noncomputable def swapW (ts vs : List Expr) (names : List Str) : Option Bool :=
  if !(ts.length == 2 || ts.length == 3) || vs.length != ts.length then some false
  else if !(ts.all fun t => t.pos.line == (ts.head?.map (·.pos.line)).getD 0) || names.eraseDups.length != names.length then some false
  else if vs.all (foldedForSure 8) then some false
  else if vs.all (constantsAlone 8) then none
  else some true
noncomputable def asAsgs (x : Stmt) : Option {t : List Expr × Expr // ∃ p, x = .Assign t.1 t.2 p} := if h_ : x.ctorIdx = 5 then @Stmt.Assign.elim (fun x => Option {t : List Expr × Expr // ∃ p, x = .Assign t.1 t.2 p}) x h_ fun ts v p => some ⟨(ts, v), p, rfl⟩ else none
theorem asg_eq {ts : List Expr} {t v : Expr} {p : Pos} (h : ts = [t]) : Stmt.Assign ts v p = .Assign [t] v p := by rw [h]
noncomputable def asAsg (x : Stmt) : Option {t : Expr × Expr // ∃ p, x = .Assign [t.1] t.2 p} := (asAsgs x).bind fun t => (one t.1.1).map fun y => ⟨(y.1, t.1.2), t.2.elim fun p h => ⟨p, h.trans (asg_eq y.2)⟩⟩
noncomputable def asEx (x : Stmt) : Option {v : Expr // ∃ p, x = .Expr v p} := if h_ : x.ctorIdx = 24 then @Stmt.Expr.elim (fun x => Option {v : Expr // ∃ p, x = .Expr v p}) x h_ fun v p => some ⟨v, p, rfl⟩ else none
noncomputable def asRet (x : Stmt) : Option {v : Option Expr // ∃ p, x = .Return v p} := if h_ : x.ctorIdx = 3 then @Stmt.Return.elim (fun x => Option {v : Option Expr // ∃ p, x = .Return v p}) x h_ fun v p => some ⟨v, p, rfl⟩ else none
noncomputable def asIfS (x : Stmt) : Option {t : Expr × List Stmt × List Stmt // ∃ p, x = .If t.1 t.2.1 t.2.2 p} := if h_ : x.ctorIdx = 12 then @Stmt.If.elim (fun x => Option {t : Expr × List Stmt × List Stmt // ∃ p, x = .If t.1 t.2.1 t.2.2 p}) x h_ fun t a b p => some ⟨(t, a, b), p, rfl⟩ else none
noncomputable def asWhls (x : Stmt) : Option {t : Expr × List Stmt × List Stmt // ∃ p, x = .While t.1 t.2.1 t.2.2 p} := if h_ : x.ctorIdx = 11 then @Stmt.While.elim (fun x => Option {t : Expr × List Stmt × List Stmt // ∃ p, x = .While t.1 t.2.1 t.2.2 p}) x h_ fun t a b p => some ⟨(t, a, b), p, rfl⟩ else none
theorem whl_eq {t : Expr} {a b : List Stmt} {p : Pos} (h : b = []) : Stmt.While t a b p = .While t a [] p := by rw [h]
noncomputable def asWhl (x : Stmt) : Option {t : Expr × List Stmt // ∃ p, x = .While t.1 t.2 [] p} := (asWhls x).bind fun t => (isNil t.1.2.2).map fun k => ⟨(t.1.1, t.1.2.1), t.2.elim fun p h => ⟨p, h.trans (whl_eq k.2)⟩⟩
noncomputable def asFors (x : Stmt) : Option {t : Expr × Expr × List Stmt × List Stmt × Pos // x = .For t.1 t.2.1 t.2.2.1 t.2.2.2.1 t.2.2.2.2} := if h_ : x.ctorIdx = 9 then @Stmt.For.elim (fun x => Option {t : Expr × Expr × List Stmt × List Stmt × Pos // x = .For t.1 t.2.1 t.2.2.1 t.2.2.2.1 t.2.2.2.2}) x h_ fun t i a b p => some ⟨(t, i, a, b, p), rfl⟩ else none
theorem for_eq {t i : Expr} {a b : List Stmt} {p : Pos} (h : b = []) : Stmt.For t i a b p = .For t i a [] p := by rw [h]
noncomputable def asFor (x : Stmt) : Option {t : Expr × Expr × List Stmt // ∃ p, x = .For t.1 t.2.1 t.2.2 [] p} := (asFors x).bind fun t => (isNil t.1.2.2.2.1).map fun k => ⟨(t.1.1, t.1.2.1, t.1.2.2.1), t.1.2.2.2.2, t.2.trans (for_eq k.2)⟩
noncomputable def asHdl : (x : ExceptHandler) → Option {t : Expr × List Stmt // ∃ p, x = .ExceptHandler (some t.1) none t.2 p}
  | .ExceptHandler (some e) none b p => some ⟨(e, b), p, rfl⟩
  | _ => none
noncomputable def asTry5 (x : Stmt) : Option {t : List Stmt × List ExceptHandler × List Stmt × List Stmt × Pos // x = .Try t.1 t.2.1 t.2.2.1 t.2.2.2.1 t.2.2.2.2} := if h_ : x.ctorIdx = 17 then @Stmt.Try.elim (fun x => Option {t : List Stmt × List ExceptHandler × List Stmt × List Stmt × Pos // x = .Try t.1 t.2.1 t.2.2.1 t.2.2.2.1 t.2.2.2.2}) x h_ fun b hs o f p => some ⟨(b, hs, o, f, p), rfl⟩ else none
theorem try_eq {b o f : List Stmt} {hs : List ExceptHandler} {p : Pos} (h : o = []) (h' : f = []) : Stmt.Try b hs o f p = .Try b hs [] [] p := by rw [h, h']
noncomputable def asTrys (x : Stmt) : Option {t : List Stmt × List ExceptHandler // ∃ p, x = .Try t.1 t.2 [] [] p} := (asTry5 x).bind fun t => (isNil t.1.2.2.1).bind fun a => (isNil t.1.2.2.2.1).map fun b => ⟨(t.1.1, t.1.2.1), t.1.2.2.2.2, t.2.trans (try_eq a.2 b.2)⟩
def IsTry (x : Stmt) (t : Expr × Str × Expr) : Prop := ∃ p1 p2 p3 p4 p, x = .Try [.Expr t.1 p1] [.ExceptHandler (some (.Name t.2.1 p2)) none [.Return (some t.2.2) p3] p4] [] [] p
theorem isTry_of {x : Stmt} {b : List Stmt} {hs : List ExceptHandler} {b1 r1 : Stmt} {h1 : ExceptHandler} {v u e : Expr} {m : Str} {l : List Stmt} {ou : Option Expr} (h : ∃ p, x = .Try b hs [] [] p) (hb : b = [b1]) (hb1 : ∃ p, b1 = .Expr v p) (hh : hs = [h1]) (hh1 : ∃ p, h1 = .ExceptHandler (some e) none l p)
    (he : ∃ p, e = .Name m p) (hl : l = [r1]) (hr : ∃ p, r1 = .Return ou p) (hu : ou = some u) : IsTry x (v, m, u) := by
  subst hu hl hh hb
  obtain ⟨p, rfl⟩ := h
  obtain ⟨p1, rfl⟩ := hb1
  obtain ⟨p4, rfl⟩ := hh1
  obtain ⟨p2, rfl⟩ := he
  obtain ⟨p3, rfl⟩ := hr
  exact ⟨_, _, _, _, _, rfl⟩
noncomputable def asTry (x : Stmt) : Option {t : Expr × Str × Expr // IsTry x t} := (asTrys x).bind fun t => (one t.1.1).bind fun b => (asEx b.1).bind fun v => (one t.1.2).bind fun h => (asHdl h.1).bind fun g => (asName' g.1.1).bind fun m => (one g.1.2).bind fun l => (asRet l.1).bind fun o => (got o.1).map fun u =>
  ⟨(v.1, m.1, u.1), isTry_of t.2 b.2 v.2 h.2 g.2 m.2 l.2 o.2 u.2⟩
noncomputable def asRaise3 (x : Stmt) : Option {t : Option Expr × Option Expr × Pos // x = .Raise t.1 t.2.1 t.2.2} := if h_ : x.ctorIdx = 16 then @Stmt.Raise.elim (fun x => Option {t : Option Expr × Option Expr × Pos // x = .Raise t.1 t.2.1 t.2.2}) x h_ fun a b p => some ⟨(a, b, p), rfl⟩ else none
theorem raise_eq {a b : Option Expr} {v : Expr} {p : Pos} (h : a = some v) (h' : b = none) : Stmt.Raise a b p = .Raise (some v) none p := by rw [h, h']
noncomputable def asRaise (x : Stmt) : Option {v : Expr // ∃ p, x = .Raise (some v) none p} := (asRaise3 x).bind fun t => (got t.1.1).bind fun a => (lost t.1.2.1).map fun b => ⟨a.1, t.1.2.2, t.2.trans (raise_eq a.2 b.2)⟩
noncomputable def asAttrT (x : Expr) : Option {t : Expr × Str // ∃ p, x = .Attribute t.1 t.2 p} := (asAttr_ x).map fun t => ⟨(t.1.1, t.1.2.1), t.1.2.2, t.2⟩
theorem slc_eq {o : Expr} {l u k l' u' : Option Expr} {p q : Pos} (h1 : l = l') (h2 : u = u') (h3 : k = none) : Expr.Subscript o (.Slice l u k p) q = .Subscript o (.Slice l' u' none p) q := by rw [h1, h2, h3]
noncomputable def asSlcT (x : Expr) : Option {t : Expr × Expr × Expr // ∃ p q, x = .Subscript t.1 (.Slice (some t.2.1) (some t.2.2) none p) q} := (asSlice x).bind fun t => (got t.1.2.1).bind fun l => (got t.1.2.2.1).bind fun u => (lost t.1.2.2.2).map fun k =>
  ⟨(t.1.1, l.1, u.1), t.2.elim fun p h => h.elim fun q h => ⟨p, q, h.trans (slc_eq l.2 u.2 k.2)⟩⟩
noncomputable def asgComp (look : Str → Option NameKind) (N : List Str) (i : Nat) (l : L) (t v : Expr) : Bool := chk (asName' t) fun n => chk (asComp v) fun c =>
  isVar look N i n && (decide (i < N.length) && (look n == some .local && (t.pos.line == v.pos.line && (!(c.2.2.2.2.names.any fun (m, k) => m == n && (k == .local || k == .cell)) && isL look N l v))))
noncomputable def isCompL : (l : L) → Option {u : Unit // ∃ a b n c, l = .comp a b n c}
  | .comp a b n c => some ⟨(), a, b, n, c, rfl⟩
  | _ => none
noncomputable def asFrz : (e : E) → Option {l : L // e = .frz l}
  | .frz l => some ⟨l, rfl⟩
  | _ => none
noncomputable def isNoneE : (e : E) → Option {u : Unit // e = .none}
  | .none => some ⟨(), rfl⟩
  | _ => none
noncomputable def isTwoE : (es : EL) → Option {u : Unit // ∃ a b, es = .cons a (.cons b .nil)}
  | .cons a (.cons b .nil) => some ⟨(), a, b, rfl⟩
  | _ => none
noncomputable def apartN : List Nat → Bool
  | [] => true
  | i :: is => !is.contains i && apartN is
noncomputable def compOf (e : E) : Option {l : L // e = .frz l ∧ ∃ a b n c, l = .comp a b n c} := (asFrz e).bind fun l => (isCompL l.1).map fun k => ⟨l.1, l.2, k.2⟩
mutual
noncomputable def isS (look : Str → Option NameKind) (N : List Str) : S → Stmt → Bool
  | .asg i e, x => chk (asAsg x) fun t => match compOf e with
    | some l => asgComp look N i l.1 t.1 t.2
    | none => isNm look N i t.1 && (notComp t.2 && isE look N e t.2)
  | .asgT is e, x => chk (asAsg x) fun t => (is.length != 1) && (isTgt look N is t.1 && (notComp t.2 && (notTup t.2 && isE look N e t.2)))
  | .asgW is es, x => chk (asAsg x) fun t => chk (asTup' t.1) fun ts => chk (asTup' t.2) fun vs => chk (got (namesOf ts)) fun ns =>
      isTgts look N is ts && (ns.all (fun n => look n == some .local) && (isEs look N es vs && ((swapW ts vs ns).isSome && (apartN is && (decide (is.length < 100) && (is.length != 1))))))
  | .setF o c i e, x => chk (asAsg x) fun t => chk (asAttrT t.1) fun y => (c.fields[i]?).any (fun m => Str.ofString m == y.2) && (isE look N o y.1 && (notComp t.2 && isE look N e t.2))
  | .setI o k e, x => chk (asAsg x) fun t => chk (asSub t.1) fun y => isE look N o y.1 && (isE look N k y.2 && (notComp t.2 && isE look N e t.2))
  | .setD o k e, x => chk (asAsg x) fun t => chk (asSub t.1) fun y => isE look N o y.1 && (isE look N k y.2 && (notComp t.2 && isE look N e t.2))
  | .setS o lo hi e, x => chk (asAsg x) fun t => chk (asSlcT t.1) fun y => isE look N o y.1 && (isE look N lo y.2.1 && (isE look N hi y.2.2 && isE look N e t.2))
  | .ex e, x => chk (asEx x) fun v => notComp v && isE look N e v
  | .app o e, x => chk (asEx x) fun v => meth1 "append" (fun y => isE look N o y) (fun y => isE look N e y) v
  | .pop0 o, x => chk (asEx x) fun v => meth1 "pop" (fun y => isE look N o y) (fun y => chk (asInt y) fun j => j == 0) v
  | .dpop o k, x => chk (asEx x) fun v => meth1 "pop" (fun y => isE look N o y) (fun y => isE look N k y) v
  | .ret e, x => chk (asRet x) fun v => match v with
    | some v => isE look N e v
    | none => (isNoneE e).isSome
  | .ite t a b, x => chk (asIfS x) fun y => isE look N t y.1 && (isSL look N a y.2.1 && isSL look N b y.2.2)
  | .whl t b, x => chk (asWhl x) fun y => isE look N t y.1 && isSL look N b y.2
  | .for_ is it b, x => chk (asFor x) fun y => isTgt look N is y.1 && (isE look N it y.2.1 && (notSet y.2.1 && isSL look N b y.2.2))
  | .try_ e i, x => chk (asTry x) fun t => notComp t.1 && (isE look N e t.1 && (isGl look "LispSignal" t.2.1 && chk (asName' t.2.2) fun n => isVar look N i n))
  | .raise_ es, x => chk (asRaise x) fun v => chk (asCallN v) fun t => isGl look "LispSignal" t.1 && (isEs look N es t.2 && (isTwoE es).isSome)
  | .bad, _ => true
noncomputable def isSL (look : Str → Option NameKind) (N : List Str) : SL → List Stmt → Bool
  | .nil, xs => (isNil xs).isSome
  | .cons s r, xs => match xs with
    | [] => false
    | x :: xs => isS look N s x && isSL look N r xs
end
end Mine
set_option backward.match.sparseCases false
namespace Mine
open PySem PySem.W PyProof.Rows PySem.SeqAt PySem.Calls
theorem swaps_no {v : Expr} {t : Option Expr} {l : Nat} {env : Env} (h : notComp v = true) : swapsWith v t l env = pure false := by
  cases v <;> first | rfl | cases h
section
variable {w : World} {base : Heap} {g₀ : Array GenState} {o₀ : OsState}
variable {K : Frag} {n : Nat}
variable {A : Around} {E : Value → Shared → Prop} {s s' s'' : Shared} {W W' : Wd} {H H' : St}
variable {look : Str → Option NameKind} {N : List Str} {env : Env} {r r' : Loc}
theorem Ext.lose {P : Addr → Prop} {C : Addr} {h' : Heap} {t : Nat} (x : Ext P s W s' W') (hW : W C = .none) (hC : s.heap.get? C = none) (k : ∀ b o, b ≠ C → s'.heap.get? b = some o → h'.get? b = some o) :
    Ext P s W { s' with heap := h', toks := t } (W'.drop (· = C)) := by
  have nn : ∀ b, b ≠ C → (W'.drop (· = C)) b = W' b := fun b q => Wd.drop_out W' (D := (· = C)) q
  have bn : ∀ b, W b ≠ .none → b ≠ C := fun b q z => q (z ▸ hW)
  refine ⟨fun b o hw e => ?_, fun b hw => ?_, fun b o hw hp e => ?_, fun b o hw e h => ?_, fun b o hw hp e => ?_⟩
  · have q : b ≠ C := fun z => by rw [z, hC] at e; cases e
    exact ⟨k b o q (x.keep b o hw e).1, (nn b q).trans (x.keep b o hw e).2⟩
  · have q := bn b (by rw [hw]; exact fun z => by cases z)
    exact (nn b q).trans (x.mach b hw)
  · have q := bn b (by rw [hw]; exact fun z => by cases z)
    obtain ⟨sl, z⟩ := x.turn b o hw hp e
    exact ⟨sl, k b _ q z⟩
  · have q := bn b (by rw [hw]; exact fun z => by cases z)
    obtain ⟨o', z, z'⟩ := x.nofld b o hw e h
    exact ⟨o', k b _ q z, z'⟩
  · have q := bn b (by rw [hw]; exact fun z => by cases z)
    exact ⟨k b o q (x.temp b o hw hp e).1, (nn b q).trans (x.temp b o hw hp e).2⟩
theorem FrOk.lose {C : Addr} {h' : Heap} {t : Nat} (F : FrOk cA look N env s W r) (hC : ∀ b, PEnv look env b → b ≠ C) (hw : W C ≠ .none) (k : ∀ b o, b ≠ C → s.heap.get? b = some o → h'.get? b = some o) :
    FrOk cA look N env { s with heap := h', toks := t } (W.drop (· = C)) r := by
  have nn : ∀ b, b ≠ C → (W.drop (· = C)) b = W b := fun b q => Wd.drop_out W (D := (· = C)) q
  refine @bc _ fun k_ => ?_
  obtain ⟨h1, h2, h3, h4, h5, h6, h7, h8, m, h9, h10⟩ := F
  apply k_; clear k_
  have kp : Keeps W s.heap (W.drop (· = C)) h' := fun b o hb e => ⟨k b o (fun q => hw (q ▸ hb)) e, Wd.drop_none _ hb⟩
  refine ⟨h1, h2, h3, h4, (nn _ (hC _ (.inl rfl))).trans h5, fun m hm => ?_, h7, h8, m, h9.at' fun o e => k _ _ (hC _ (.inl rfl)) e, fun i m y e1 e2 => ?_⟩
  · refine @bc _ fun k_ => ?_
    refine @bc _ fun k_ => ?_
    obtain ⟨c, v, e1, e2, e3, o, e4, e5⟩ := h6 m hm
    apply k_; clear k_
    apply k_; clear k_
    have q := hC c (.inr ⟨m, hm, e1⟩)
    exact ⟨c, v, e1, (nn _ q).trans e2, e3, o, k _ _ q e4, e5⟩
  · obtain ⟨v, rv, q⟩ := h10 i m y e1 e2
    refine ⟨v, Rep.keeps kp _ rv, ?_⟩
    refine @bc _ fun k_ => ?_
    rcases q with q | ⟨q1, c, q2, o, q3, q4⟩ <;> (apply k_; clear k_)
    · exact .inl q
    · exact .inr ⟨q1, c, q2, o, k _ _ (hC c (.inr ⟨_, q1, q2⟩)) q3, q4⟩
theorem PEnv.mach (F : FrOk cA look N env s W r) {b : Addr} (h : PEnv look env b) : W b = some .mach := by
  rcases h with rfl | ⟨m, hm, hc⟩
  · exact F.own
  · refine @bc _ fun k_ => ?_
    obtain ⟨c, v, e1, e2, _⟩ := F.cells m hm
    apply k_; clear k_
    rw [hc] at e1; cases e1; exact e2
abbrev OKN (cA : Cls → Addr) (prog : Program) (w : World) (base : Heap) (g₀ : Array GenState) (o₀ : OsState) (look : Str → Option NameKind) (N : List Str) (env : Env) (s : Shared) (W : Wd) (Nx : Loc → St → Prop) (Qn : Shared → Prop) : Prop :=
  ∀ r' H' s' W', Ext (PEnv look env) s W s' W' → StOk cA prog w base g₀ o₀ s' W' H' → FrOk cA look N env s' W' r' → r'.length = N.length → Nx r' H' → Qn s'
abbrev OKR (cA : Cls → Addr) (prog : Program) (w : World) (base : Heap) (g₀ : Array GenState) (o₀ : OsState) (look : Str → Option NameKind) (env : Env) (s : Shared) (W : Wd) (Rt : V → St → Prop) (Qr : Value → Shared → Prop) : Prop :=
  ∀ y H' v s' W', Ext (PEnv look env) s W s' W' → StOk cA prog w base g₀ o₀ s' W' H' → Rep cA s'.heap W' y v → Rt y H' → Qr v s'
abbrev OKXs (cA : Cls → Addr) (xA : Addr) (prog : Program) (w : World) (base : Heap) (g₀ : Array GenState) (o₀ : OsState) (look : Str → Option NameKind) (env : Env) (s : Shared) (W : Wd) (X : St → Prop) (Em : Value → Shared → Prop) : Prop :=
  ∀ e s' W' H', Ext (PEnv look env) s W s' W' → StOk cA prog w base g₀ o₀ s' W' H' → Flies xA e s' W' → X H' → Em e s'
theorem np {P : Addr → Prop} (x : Ext NP s W s' W') : Ext P s W s' W' := x.weaken fun _ q => q.elim
theorem OKN.at {Nx : Loc → St → Prop} {Qn : Shared → Prop} (q : OKN cA prog w base g₀ o₀ look N env s W Nx Qn) (x : Ext (PEnv look env) s W s' W') : OKN cA prog w base g₀ o₀ look N env s' W' Nx Qn := fun a b c d e => q a b c d (x.trans e)
theorem OKR.at {Rt : V → St → Prop} {Qr : Value → Shared → Prop} (q : OKR cA prog w base g₀ o₀ look env s W Rt Qr) (x : Ext (PEnv look env) s W s' W') : OKR cA prog w base g₀ o₀ look env s' W' Rt Qr := fun a b c d f e => q a b c d f (x.trans e)
theorem OKXs.at {X : St → Prop} {Em : Value → Shared → Prop} (q : OKXs cA xA prog w base g₀ o₀ look env s W X Em) (x : Ext (PEnv look env) s W s' W') : OKXs cA xA prog w base g₀ o₀ look env s' W' X Em := fun a b c d e => q a b c d (x.trans e)
theorem OKXs.ex {X : St → Prop} {Em : Value → Shared → Prop} (q : OKXs cA xA prog w base g₀ o₀ look env s W X Em) : OKX cA xA prog w base g₀ o₀ s W X Em := fun a b c d e => q a b c d (np e)
theorem putAll_snoc : ∀ {is : List Nat} {xs : List V} {r : Loc} {i : Nat} {x : V}, putAll r (is ++ [i]) (xs ++ [x]) = if is.length = xs.length then (putAll r is xs).map (fun r => r.put i x) else putAll r (is ++ [i]) (xs ++ [x])
  | [], [], r, i, x => by simp [putAll]
  | [], _ :: _, r, i, x => by simp
  | _ :: _, [], r, i, x => by simp
  | j :: is, y :: xs, r, i, x => by
    have := putAll_snoc (is := is) (xs := xs) (r := r.put j y) (i := i) (x := x)
    show putAll (r.put j y) (is ++ [i]) (xs ++ [x]) = _
    by_cases h : is.length = xs.length
    · rw [if_pos h] at this
      simp only [this]
      simp [h, putAll]
    · rw [if_neg (by simpa using h)]
      rfl
theorem put_comm {r : Loc} {i j : Nat} {x y : V} (h : i ≠ j) : (r.put i x).put j y = (r.put j y).put i x := by
  simp only [Loc.put]
  exact List.set_comm _ _ h
theorem putAll_put : ∀ {is : List Nat} {xs : List V} {r : Loc} {i : Nat} {x : V}, is.contains i = false → putAll (r.put i x) is xs = (putAll r is xs).map (fun r => r.put i x)
  | [], [], r, i, x, _ => rfl
  | [], _ :: _, r, i, x, _ => rfl
  | _ :: _, [], r, i, x, _ => rfl
  | j :: is, y :: xs, r, i, x, h => by
    simp only [List.contains_cons, Bool.or_eq_false_iff] at h
    show putAll ((r.put i x).put j y) is xs = (putAll (r.put j y) is xs).map _
    rw [put_comm (by simpa using h.1)]
    exact putAll_put h.2
theorem putAll_rev : ∀ {is : List Nat} {xs : List V} {r : Loc}, apartN is = true → is.length = xs.length → putAll r is.reverse xs.reverse = putAll r is xs
  | [], [], r, _, _ => rfl
  | i :: is, x :: xs, r, h, hl => by
    simp only [apartN, Bool.and_eq_true, Bool.not_eq_true'] at h
    have hl' : is.length = xs.length := by simpa using hl
    rw [List.reverse_cons, List.reverse_cons, putAll_snoc, if_pos (by simp [hl']), putAll_rev h.2 hl']
    exact (putAll_put h.1).symm
  | [], _ :: _, _, _, hl => by simp at hl
  | _ :: _, [], _, _, hl => by simp at hl
theorem names_snd : ∀ {is : List Nat} {ms : List Str} {xs : List V} {vs : List Value} {s : Shared} {r : Loc} {Q : Unit → Shared → Prop}, is.length = ms.length → (∀ p ∈ is.zip ms, isVar look N p.1 p.2 = true ∧ p.1 < N.length) → N.length ≤ r.length → StOk cA prog w base g₀ o₀ s W H → FrOk cA look N env s W r → Reps cA s.heap W xs vs → putAll r is xs = some r' →
    (∀ s', Ext (PEnv look env) s W s' W → StOk cA prog w base g₀ o₀ s' W H → FrOk cA look N env s' W r' → Q () s') → wpAny (model prog w) A (assignInOrder (ms.map fun m => bindName env m) vs) Q E s
  | [], [], [], [], s, r, Q, _, _, _, S, F, _, e, h => by cases e; exact wpAny_pure (h s (Ext.refl ..) S F)
  | i :: is, m :: ms, x :: xs, v :: vs, s, r, Q, hlen, ck, hl, S, F, rv, e, h => by
    refine @bc _ fun k_ => ?_
    obtain ⟨c1, c2⟩ := ck (i, m) (by simp)
    obtain ⟨h1, h2, _⟩ := isVar_eq c1
    apply k_; clear k_
    show wpAny _ _ (holding vs (bindName env m v) >>= fun _ => assignInOrder (ms.map fun m => bindName env m) vs) _ _ _
    have c2' : i < N.length := c2
    refine wpAny_bind (wpAny_holding (wpAny_bindName (st_var S F h1 (by (first | lia | omega)) rv.1 h2 fun s₁ e₁ S₁ F₁ => ?_)))
    exact names_snd (by simpa using hlen) (fun p hp => ck p (by simp [hp])) (by rw [Loc.put_length]; exact hl) S₁ F₁ (e₁.reps rv.2) e fun s' e₂ S' F' => h s' (e₁.trans e₂) S' F'
  | [], [], _ :: _, _, s, r, Q, _, _, _, S, F, _, e, h => by cases e
  | _ :: _, _ :: _, [], _, s, r, Q, _, _, _, S, F, _, e, h => by cases e
  | [], _ :: _, _, _, s, r, Q, hlen, _, _, S, F, _, e, h => by simp at hlen
  | _ :: _, [], _, _, s, r, Q, hlen, _, _, S, F, _, e, h => by simp at hlen
  | _, _, _ :: _, [], s, r, Q, _, _, _, S, F, rv, e, h => rv.elim
  | _, _, [], _ :: _, s, r, Q, _, _, _, S, F, rv, e, h => rv.elim
theorem namesOf_length {ts : List Expr} : ∀ {ms : List Str}, namesOf ts = some ms → ts.length = ms.length := by
  induction ts with
  | nil => intro ms h; cases h; rfl
  | cons t ts ih =>
    intro ms h
    refine @bc _ fun k_ => ?_
    obtain ⟨m, ns, p, _, h2, e0_⟩ := namesOf_cons h
    apply k_; clear k_
    clear h
    subst e0_
    simp only [List.length_cons, List.length_cons, ih h2]
theorem isTgts_zip {is : List Nat} : ∀ {ts : List Expr} {ms : List Str}, isTgts look N is ts = true → namesOf ts = some ms → ∀ p ∈ is.zip ms, isVar look N p.1 p.2 = true ∧ p.1 < N.length := by
  induction is with
  | nil => intro ts ms _ _ p hp; rw [List.zip_nil_left] at hp; cases hp
  | cons i is ih =>
    intro ts ms h hn p hp
    cases ts with
    | nil => cases h
    | cons t ts =>
      refine @bc _ fun k_ => ?_
      obtain ⟨m, ns, p', e0_, h2, e1_⟩ := namesOf_cons hn
      apply k_; clear k_
      subst e0_ e1_
      obtain ⟨h1, h3⟩ := and_ok h
      rw [List.zip_cons_cons, List.mem_cons] at hp
      rcases hp with rfl | hp
      · refine @bc _ fun k_ => ?_
        obtain ⟨m', q', e, d⟩ := isNm_eq h1
        apply k_; clear k_
        cases e
        exact d
      · exact ih h3 h2 p hp
set_option backward.match.sparseCases true in
theorem names_of {env : Env} {l : Nat} {f : Expr → Option Str} (hf : ∀ id pos, f (.Name id pos) = if env.kindOf id == some .local && pos.line == l then some id else none) {ts : List Expr} : ∀ {ms : List Str}, namesOf ts = some ms → (∀ m ∈ ms, env.kindOf m = some .local) →
    (ts.all (fun t => t.pos.line == l) = true → ts.filterMap f = ms) ∧ (ts.all (fun t => t.pos.line == l) = false → (ts.filterMap f).length < ts.length) := by
  induction ts with
  | nil => intro ms h _; cases h; exact ⟨fun _ => rfl, fun q => by cases q⟩
  | cons t ts ih =>
    intro ms h hk
    refine @bc _ fun k_ => ?_
    obtain ⟨m, ns, p, e0_, h2, e1_⟩ := namesOf_cons h
    rw [e1_] at hk
    obtain ⟨a, b⟩ := ih h2 fun x hx => hk x (List.mem_cons_of_mem _ hx)
    have e : f (.Name m p) = if (p.line == l) = true then some m else none := by rw [hf, hk m List.mem_cons_self]; rfl
    apply k_; clear k_ ih h
    rw [e0_, e1_]
    cases hp : (p.line == l) with
    | true =>
      rw [hp] at e
      have hx : ∀ z, (((p.line == l) && ts.all fun t => t.pos.line == l) = z) → (ts.all fun t => t.pos.line == l) = z := fun z q => by rw [hp] at q; exact q
      rw [List.filterMap_cons_some e]
      exact ⟨fun q => congrArg (m :: ·) (a (hx _ q)), fun q => Nat.succ_lt_succ (b (hx _ q))⟩
    | false =>
      rw [hp] at e
      rw [List.filterMap_cons_none e]
      exact ⟨fun q => absurd ((Bool.and_eq_true_iff.mp q).1.symm.trans hp) (by decide), fun _ => Nat.lt_succ_of_le (List.length_filterMap_le _ _)⟩
theorem any_not {vs : List Expr} {f : Expr → Bool} (hs : vs.all notStar = true) (hf : ∀ x, notStar x = true → f x = false) : ¬ (vs.any f = true) := fun z => by
  obtain ⟨x, hx, h⟩ := List.any_eq_true.mp z
  rw [hf x (List.all_eq_true.mp hs x hx)] at h
  cases h
theorem swap_rest {ts : List Expr} {ms fm : List Str} {c4 c5 al b : Bool} {U : Sem (Option (List Str))} (hl : ts.length = ms.length) (q1 : al = true → fm = ms) (q2 : al = false → fm.length < ts.length)
    (h : (if (!al || ms.eraseDups.length != ms.length) = true then some false else if c4 = true then some false else if c5 = true then none else some true) = some b) :
    (if (fm.length != ts.length || fm.eraseDups.length != fm.length) = true then (pure none : Sem (Option (List Str))) else if c4 = true then pure none else if c5 = true then U else pure (some fm)) = pure (if b = true then some ms else none) := by
  cases al with
  | false =>
    rw [← Option.some.inj (show some false = some b from h)]
    exact if_pos (by rw [bne_iff_ne.mpr (Nat.ne_of_lt (q2 rfl))]; rfl)
  | true =>
    rw [q1 rfl, hl]
    have e0 : (ms.length != ms.length) = false := by simp
    rw [e0]
    cases hd : (ms.eraseDups.length != ms.length) with
    | true =>
      rw [hd] at h
      rw [← Option.some.inj (show some false = some b from h)]; rfl
    | false =>
      rw [hd] at h
      cases c4 with
      | true => rw [← Option.some.inj (show some false = some b from h)]; rfl
      | false =>
        cases c5 with
        | true => exact nomatch (show Option.none = some b from h)
        | false => rw [← Option.some.inj (show some true = some b from h)]; rfl
theorem swap_is {ts vs : List Expr} {ms : List Str} {k k' : Nat} {p p' : Pos} {b : Bool} (hf : env.scope.kind = .function) (hn : namesOf ts = some ms) (hk : ∀ m ∈ ms, env.kindOf m = some .local) (hs : vs.all notStar = true) (h : swapW ts vs ms = some b) :
    swappedStores [.Tuple ts k p] (.Tuple vs k' p') env = pure (if b then some ms else none) := by
  have hb : (env.blockKind != .function) = false := by unfold Env.blockKind; rw [hf]; rfl
  have hl := namesOf_length hn
  have q := fun f hf => names_of (env := env) (l := (ts.head?.map (·.pos.line)).getD 0) (f := f) hf hn hk
  unfold swapW at h
  show (if (!(ts.length == 2 || ts.length == 3) || vs.length != ts.length || env.blockKind != .function) = true then (pure none : Sem (Option (List Str))) else _) = _
  rw [hb, Bool.or_false]
  cases c : (!(ts.length == 2 || ts.length == 3) || vs.length != ts.length) with
  | true =>
    rw [c] at h
    rw [← Option.some.inj (show some false = some b from h)]; rfl
  | false =>
    rw [c] at h
    refine (if_neg (by decide)).trans ((if_neg (any_not hs fun x hx => ?_)).trans ?_)
    rotate_left
    · exact swap_rest hl (q _ fun _ _ => rfl).1 (q _ fun _ _ => rfl).2 h
    · cases x <;> first | rfl | cases hx
end
end Mine
set_option backward.match.sparseCases false
namespace Mine
open PySem PySem.W PyProof.Rows PySem.SeqAt PySem.Calls
section
variable {w : World} {base : Heap} {g₀ : Array GenState} {o₀ : OsState}
variable {K : Frag} {n : Nat}
theorem storing {look : Str → Option NameKind} {N : List Str} {env : Env} {s : Shared} {W : Wd} {H' : St} {r : Loc} {s' : Shared} (F : FrOk cA look N env s W r) (o : Ok0 cA prog w base g₀ o₀ s W H' s') : Ext (PEnv look env) s W s' W ∧ StOk cA prog w base g₀ o₀ s' W H' ∧ FrOk cA look N env s' W r :=
  ⟨np o.1, o.2, F.ext0 o.1⟩
theorem assign_oneA {o : Expr} {a : Str} {p : Pos} {v : Expr} {env : Env} {pos : Pos} {M : Model} {A : Around} {E : Value → Shared → Prop} {s : Shared} {Q : Flow → Shared → Prop} (hw : swapsWith v (some (.Attribute o a p)) pos.line env = pure false)
    (h : wpAny M A (eval v env) (fun u s₁ => wpAny M A (assign (.Attribute o a p) env u) (fun _ => Q .next) E s₁) E s) : wpAny M A (exec (.Assign [.Attribute o a p] v pos) env) Q E s :=
  wpAny_Assign_stores (wpAny_mono h (fun u s₁ h₁ => h₁) fun _ _ x => x) hw rfl
theorem assign_oneS {o i : Expr} {p : Pos} {v : Expr} {env : Env} {pos : Pos} {M : Model} {A : Around} {E : Value → Shared → Prop} {s : Shared} {Q : Flow → Shared → Prop} (hw : swapsWith v (some (.Subscript o i p)) pos.line env = pure false)
    (h : wpAny M A (eval v env) (fun u s₁ => wpAny M A (assign (.Subscript o i p) env u) (fun _ => Q .next) E s₁) E s) : wpAny M A (exec (.Assign [.Subscript o i p] v pos) env) Q E s :=
  wpAny_Assign_stores (wpAny_mono h (fun u s₁ h₁ => h₁) fun _ _ x => x) hw rfl
theorem swap_tup {ts : List Expr} {k : Nat} {p : Pos} {v : Expr} {env : Env} (hv : notTup v = true) : swappedStores [.Tuple ts k p] v env = pure none := by
  cases v <;> first | rfl | cases hv
theorem assign_oneT {ts : List Expr} {k : Nat} {p : Pos} {v : Expr} {env : Env} {pos : Pos} {M : Model} {A : Around} {E : Value → Shared → Prop} {s : Shared} {Q : Flow → Shared → Prop} (hw : swapsWith v (some (.Tuple ts k p)) pos.line env = pure false) (hv : notTup v = true)
    (h : wpAny M A (eval v env) (fun u s₁ => wpAny M A (assign (.Tuple ts k p) env u) (fun _ => Q .next) E s₁) E s) : wpAny M A (exec (.Assign [.Tuple ts k p] v pos) env) Q E s :=
  wpAny_Assign_stores (wpAny_mono h (fun u s₁ h₁ => h₁) fun _ _ x => x) hw (swap_tup hv)
theorem assign_attr {o : Expr} {a : Str} {p : Pos} {env : Env} {u : Value} {M : Model} {A : Around} {E : Value → Shared → Prop} {s : Shared} {Q : Unit → Shared → Prop}
    (h : wpAny M A (eval o env) (fun ov s₁ => wpAny M A (setAttr ov a u) Q E s₁) E s) : wpAny M A (assign (.Attribute o a p) env u) Q E s := by
  show wpAny M A (do
    let ov ← holding [u] (eval o env)
    standAt p.atName
    holding [u, ov] (setAttr ov a u)
    release [u, ov] []) Q E s
  exact wpAny_bind (wpAny_holding (wpAny_mono h (fun ov s₁ h₁ => wpAny_bind (wpAny_standAt (wpAny_bind (wpAny_holding (wpAny_mono h₁ (fun _ s₂ h₂ => wpAny_release' h₂) fun _ _ x => x))))) fun _ _ x => x))
set_option backward.match.sparseCases true in
theorem assign_sub {o i : Expr} {p : Pos} {env : Env} {u : Value} {M : Model} {A : Around} {E : Value → Shared → Prop} {s : Shared} {Q : Unit → Shared → Prop}
    (h : wpAny M A (eval o env) (fun ov s₁ => wpAny M A (eval i env) (fun iv s₂ => wpAny M A (PySem.setItem ov iv u) Q E s₂) E s₁) E s) : wpAny M A (assign (.Subscript o i p) env u) Q E s := by
  show wpAny M A (holding [u] (eval o env) >>= _) Q E s
  exact wpAny_bind (wpAny_holding (wpAny_mono h (fun ov s₁ h₁ => wpAny_bind (wpAny_holding (wpAny_mono h₁ (fun iv s₂ h₂ => wpAny_bind (wpAny_standAt (wpAny_bind (wpAny_holding (wpAny_mono h₂ (fun _ s₃ h₃ => wpAny_release' h₃) fun _ _ x => x))))) fun _ _ x => x))) fun _ _ x => x))
theorem fn_block {env : Env} (h : env.scope.kind = .function) : env.blockKind = .function := by unfold Env.blockKind; rw [h]; rfl
theorem not_inter {env : Env} (h : env.scope.kind = .function) : interactive env = false := by unfold interactive; rw [h]; rfl
inductive AsgOk (look : Str → Option NameKind) (N : List Str) (i : Nat) (l : L) (t v : Expr) : Prop
  | mk (m : Str) (e1 e3 : Expr) (e4 : Option Expr) (sc : Scope) (tt : Expr) (pp p : Pos) (ht : t = .Name m p) (hv : v = .ListComp e1 [⟨tt, e3, Option.toList e4, 0⟩] sc pp) (c1 : isVar look N i m = true) (c2 : i < N.length) (c3 : look m = some .local) (c4 : t.pos.line = v.pos.line) (c5 : (sc.names.any fun (n, k) => n == m && (k == .local || k == .cell)) = false) (c6 : isL look N l v = true)
theorem asgComp_ok {look : Str → Option NameKind} {N : List Str} {i : Nat} {l : L} {t v : Expr} (ck : asgComp look N i l t v = true) : AsgOk look N i l t v := by
  refine @bc _ fun k_ => ?_
  obtain ⟨m, ⟨p, hm⟩, ck⟩ := chk_ok ck
  obtain ⟨c, ⟨tt, pp, hv, _⟩, ck⟩ := chk_ok ck
  obtain ⟨c1, ck⟩ := and_ok ck
  obtain ⟨c2, ck⟩ := and_ok ck
  obtain ⟨c3, ck⟩ := and_ok ck
  obtain ⟨c4, ck⟩ := and_ok ck
  obtain ⟨c5, c6⟩ := and_ok ck
  apply k_; clear k_
  exact ⟨m, c.1, c.2.2.1, c.2.2.2.1, c.2.2.2.2, tt, pp, p, hm, hv, c1, dec_ok c2, eq_of_beq c3, eq_of_beq c4, not_ok c5, c6⟩
theorem asgComp_snd (FX : Fix K cA fA xA prog w base g₀ o₀ n) {i : Nat} {elt cond src : E} {k : Nat} {t v : Expr} {pos : Pos} {look : Str → Option NameKind} {N : List Str} {env : Env} {s : Shared} {W : Wd} {H : St} {r : Loc} {A : Around} {X : St → Prop} {Nx : Loc → St → Prop} {Qm : Flow → Shared → Prop} {Em : Value → Shared → Prop}
    (ck : asgComp look N i (.comp elt cond k src) t v = true) (S : StOk cA prog w base g₀ o₀ s W H) (F : FrOk cA look N env s W r) (hr : r.length = N.length) (Si : Site A (2 * n + 1) s W)
    (h : wpE (callAt defs n) X r (.frz (.comp elt cond k src)) H fun x H => Nx (r.put i x) H) (qn : OKN cA prog w base g₀ o₀ look N env s W Nx (Qm .next)) (qx : OKXs cA xA prog w base g₀ o₀ look env s W X Em) :
    wpAny (model prog w) A (exec (.Assign [t] v pos) env) Qm Em s := by
  refine @bc _ fun k_ => ?_
  obtain ⟨m, e1, e3, e4, sc, tt, pp, p, e0_, e1_, c1, c2, c3, c4, c5, c6⟩ := asgComp_ok ck
  apply k_; clear k_ ck
  subst e0_ e1_
  refine @bc _ fun k_ => ?_
  obtain ⟨g1, g2, _⟩ := isVar_eq c1
  apply k_; clear k_
  have hsw : swapsWith (.ListComp e1 [⟨tt, e3, e4.toList, 0⟩] sc pp) (some (.Name m p)) pos.line env = pure true := by
    show (pure (env.blockKind == .function && env.kindOf m == some .local && p.line == pp.line && !(sc.names.any fun (n, k) => n == m && (k == .local || k == .cell))) : Sem Bool) = pure true
    simp only [fn_block F.kind, F.looks _ _ c3 (by decide), c5, show p.line = pp.line from c4]
    simp
  rw [exec_Assign_Name_used _ _ _ _ hsw]
  refine wpAny_bind (wpAny_standAt (wpAny_bind ?_))
  show wpAny _ A (do let _ ← comprehension (.ListComp e1 [⟨tt, e3, e4.toList, 0⟩] sc pp) sc env _ (newList []) false (eval e3 env) (some (assign (.Name m p) env))) _ _ s
  refine wpAny_bind ?_
  obtain ⟨ex', t', it', c', sc', pos', heq, hc⟩ := comp_snd (env := env) (pos' := fun _ p => p) (soundE FX src) (soundE FX elt) (soundT FX cond) (some (assign (.Name m p) env)) (Qm := fun _ s' => Qm .next s') (Q := fun xs H => Nx (r.put i (.lst xs)) H) c6 S F Si h qx.ex fun ys H₁ s₁ W₁ D C s' e₁ S₁ hend hn hq => by
    obtain ⟨ne, n1, n2, W', vs, mm, e2, S2, wD, wC, hl, hlen, rq, hmm⟩ := hend
    have hWC : W₁ C = .none := S₁.free n2
    have hWD : W₁ D = .none := S₁.free n1
    have dn : ∀ b, b ≠ D → (W'.drop (· = D)) b = W' b := fun b q => Wd.drop_out W' (D := (· = D)) q
    have S3 := S2.drop (· = D) fun b t q hw => by subst q; rw [wD] at hw; cases hw
    have e3 : Ext NP s₁ W₁ s' (W'.drop (· = D)) := e2.drop fun b q => by subst q; exact ⟨hWD, n1⟩
    have F3 := (F.ext0 e₁).ext0 e3
    have hrep : Rep cA s'.heap (W'.drop (· = D)) (.lst ys) (.ref D) := ⟨D, vs, rfl, Wd.drop_in _ rfl, hl, by rw [hlen]; exact hn, rq.keeps (keeps_drop W' _ _)⟩
    have wC3 : (W'.drop (· = D)) C = some .mach := (dn C ne.symm).trans wC
    have hPC : ∀ b, PEnv look env b → b ≠ C := fun b hb q => by
      have := PEnv.mach (F.ext0 e₁) hb
      rw [q, hWC] at this; cases this
    refine wpAny_assign_Name (st_var S3 F3 g1 (by (first | lia | omega)) hrep g2 fun s4 x4 S4 F4 => ?_)
    refine ⟨mm, ns_slots hmm fun o e => x4.turn C o wC3 (fun hb => hPC C hb rfl) e, fun h' hs => ?_⟩
    have kk : ∀ b o, b ≠ C → s4.heap.get? b = some o → h'.get? b = some o := fun b o hb q => hs.extBut b o hb q
    have S5 := S4.gone (s' := { s4 with heap := h' }) (.inr wC3) kk
    have x5 : Ext (PEnv look env) s₁ W₁ { s4 with heap := h' } ((W'.drop (· = D)).drop (· = C)) := ((np e3).trans x4).lose (t := s4.toks) hWC n2 kk
    have F5 : FrOk cA look N env { s4 with heap := h' } ((W'.drop (· = D)).drop (· = C)) (r.put i (.lst ys)) := F4.lose (t := s4.toks) hPC (by rw [wC3]; exact fun q => by cases q) kk
    exact qn _ _ _ _ ((np e₁).trans x5) S5 F5 (by rw [Loc.put_length]; exact hr) hq
  cases heq
  exact wpAny_mono (hc _) (fun _ _ z => wpAny_pure (wpAny_pure z)) fun _ _ z => z
end
end Mine
set_option backward.match.sparseCases false
namespace Mine
open PySem PySem.W PyProof.Rows PySem.SeqAt PySem.Calls
theorem swaps_sub {v o i : Expr} {p : Pos} {l : Nat} {env : Env} : swapsWith v (some (.Subscript o i p)) l env = pure false := by cases v <;> rfl
theorem zip_rev {α β : Type} : ∀ {l1 : List α} {l2 : List β}, l1.length = l2.length → l1.reverse.zip l2.reverse = (l1.zip l2).reverse
  | [], [], _ => rfl
  | a :: l1, b :: l2, h => by
    have h' : l1.length = l2.length := by simpa using h
    rw [List.reverse_cons, List.reverse_cons, List.zip_append (by simp [h']), zip_rev h']; simp
  | [], _ :: _, h => by simp at h
  | _ :: _, [], h => by simp at h
section
variable {w : World} {base : Heap} {g₀ : Array GenState} {o₀ : OsState}
variable {K : Frag} {n : Nat}
def SndS (cA : Cls → Addr) (xA : Addr) (prog : Program) (w : World) (base : Heap) (g₀ : Array GenState) (o₀ : OsState) (n : Nat) (look : Str → Option NameKind) (N : List Str) (t : S) (x : Stmt) : Prop := ∀ {env : Env} {s : Shared} {W : Wd} {H : St} {r : Loc} {A : Around} {X : St → Prop} {Rt : V → St → Prop} {Nx : Loc → St → Prop} {Qm : Flow → Shared → Prop} {Em : Value → Shared → Prop},
    StOk cA prog w base g₀ o₀ s W H → FrOk cA look N env s W r → r.length = N.length → Site A (2 * n + 1) s W → (∃ o, A.frames = some (env :: o)) → wpS (callAt defs n) X Rt t r H Nx →
    OKN cA prog w base g₀ o₀ look N env s W Nx (Qm .next) → OKR cA prog w base g₀ o₀ look env s W Rt (fun v => Qm (.ret v)) → OKXs cA xA prog w base g₀ o₀ look env s W X Em →
    wpAny (model prog w) A (exec x env) Qm Em s
def SS (cA : Cls → Addr) (xA : Addr) (prog : Program) (w : World) (base : Heap) (g₀ : Array GenState) (o₀ : OsState) (n : Nat) (t : S) : Prop := ∀ {x : Stmt} {look : Str → Option NameKind} {N : List Str}, isS look N t x = true → SndS cA xA prog w base g₀ o₀ n look N t x
def SSL (cA : Cls → Addr) (xA : Addr) (prog : Program) (w : World) (base : Heap) (g₀ : Array GenState) (o₀ : OsState) (n : Nat) (t : SL) : Prop := ∀ {x : List Stmt} {look : Str → Option NameKind} {N : List Str} {env : Env} {s : Shared} {W : Wd} {H : St} {r : Loc} {A : Around} {X : St → Prop} {Rt : V → St → Prop} {Nx : Loc → St → Prop} {Qm : Flow → Shared → Prop} {Em : Value → Shared → Prop},
    isSL look N t x = true → StOk cA prog w base g₀ o₀ s W H → FrOk cA look N env s W r → r.length = N.length → Site A (2 * n + 1) s W → (∃ o, A.frames = some (env :: o)) → wpSL (callAt defs n) X Rt t r H Nx →
    OKN cA prog w base g₀ o₀ look N env s W Nx (Qm .next) → OKR cA prog w base g₀ o₀ look env s W Rt (fun v => Qm (.ret v)) → OKXs cA xA prog w base g₀ o₀ look env s W X Em →
    wpAny (model prog w) A (execs x env) Qm Em s
def RaiseSnd (cA : Cls → Addr) (xA : Addr) (prog : Program) (w : World) (base : Heap) (g₀ : Array GenState) (o₀ : OsState) (n : Nat) : Prop := ∀ es : EL, SS cA xA prog w base g₀ o₀ n (.raise_ es)
def TrySnd (cA : Cls → Addr) (xA : Addr) (prog : Program) (w : World) (base : Heap) (g₀ : Array GenState) (o₀ : OsState) (n : Nat) : Prop := ∀ (e : E) (i : Nat), SS cA xA prog w base g₀ o₀ n (.try_ e i)
theorem reads_lst {s : Shared} {W : Wd} {H : St} (S : StOk cA prog w base g₀ o₀ s W H) {x : V} {v : Value} {xs : List V} (r : Rep cA s.heap W x v) (e : itemsV H x = some xs) : ∃ a vs n, v = .ref a ∧ s.heap.get? a = some { cls := .type "list", data := .seq vs n } := by
  refine @bc _ fun k_ => ?_
  obtain ⟨a, vs, e0_, ⟨n, e⟩, _⟩ := itemsV_at S r e
  apply k_; clear k_
  subst e0_
  exact ⟨a, _, n, rfl, e⟩
theorem Ext.narrowP {P P' : Addr → Prop} {s s' : Shared} {W W' : Wd} (x : Ext P s W s' W') (h : ∀ b, P b → P' b ∨ W b = .none) : Ext P' s W s' W' :=
  ⟨x.keep, x.mach, fun b o hw hp e => x.turn b o hw (fun q => by rcases h b q with q | q; exact hp q; rw [q] at hw; cases hw) e, x.nofld, fun b o hw hp e => x.temp b o hw (fun q => by rcases h b q with q | q; exact hp q; rw [q] at hw; cases hw) e⟩
theorem bindT_length {r r' : Loc} {is : List Nat} {x : V} (h : bindT r is x = some r') : r'.length = r.length := by
  unfold bindT at h
  split at h
  · cases h; exact Loc.put_length ..
  · obtain ⟨vs, _, hp⟩ := Option.bind_eq_some_iff.mp h
    exact (putAll_length hp).2
theorem sS_bad : SS cA xA prog w base g₀ o₀ n .bad := by
  intro x look N ck env s W H r A X Rt Nx Qm Em S F hr Si fr h qn qr qx
  exact h.elim
theorem popFrom_items {H H' : St} {y : V} (h : popFrom H y = some H') : ∃ xs, itemsV H y = some xs := by
  obtain ⟨t, a, xs, e, hH, _⟩ := onO_is h
  rw [e]
  refine ⟨xs, ?_⟩
  show (match H t with | some (a', .list xs) => if a' = a then some xs else .none | _ => .none) = _
  rw [hH]
  exact if_pos rfl
theorem sS_asg (FX : Fix K cA fA xA prog w base g₀ o₀ n) (i : Nat) (e : E) : SS cA xA prog w base g₀ o₀ n (.asg i e) := by
  intro x look N ck
  refine @bc _ fun k_ => ?_
  obtain ⟨⟨t, v⟩, ⟨pos, e0_⟩, cx⟩ := chk_ok ck
  apply k_; clear k_ ck
  subst e0_
  dsimp only at cx
  cases hc : compOf e with
  | some l =>
    rw [hc] at cx
    refine @bc _ fun k_ => ?_
    obtain ⟨l, e0_, a, b, m, c, e1_⟩ := l
    apply k_; clear k_
    subst e0_ e1_
    intro env s W H r A X Rt Nx Qm Em S F hr Si fr h qn qr qx
    exact asgComp_snd FX cx S F hr Si h qn qx
  | none =>
    rw [hc] at cx
    refine @bc _ fun k_ => ?_
    obtain ⟨c1, cx⟩ := and_ok cx
    obtain ⟨c3, c4⟩ := and_ok cx
    obtain ⟨m, p, e0_, d1, c2⟩ := isNm_eq c1
    apply k_; clear k_
    subst e0_
    intro env s W H r A X Rt Nx Qm Em S F hr Si fr h qn qr qx
    refine wpAny_Assign_Name (soundE FX e c4 S F Si h (fun y H₁ v₁ s₁ W₁ e₁ S₁ r₁ h₁ => ?_) qx.ex) (swaps_no c3)
    refine @bc _ fun k_ => ?_
    obtain ⟨g1, g2, _⟩ := isVar_eq d1
    apply k_; clear k_
    exact st_var S₁ (F.ext0 e₁) g1 (by rw [hr]; exact c2) r₁ g2 fun s₂ x₂ S₂ F₂ => qn _ _ _ _ ((np e₁).trans x₂) S₂ F₂ (by rw [Loc.put_length]; exact hr) h₁
theorem bindT_many {is : List Nat} {r r' : Loc} {x : V} (c : (is.length != 1) = true) (h : bindT r is x = some r') : ((unpackOf x).bind fun vs => putAll r is vs) = some r' := by
  cases is with
  | nil => exact h
  | cons i is => cases is with
    | nil => cases c
    | cons j is => exact h
theorem bindT_of {is : List Nat} {r : Loc} {x : V} (c : (is.length != 1) = true) : bindT r is x = (unpackOf x).bind fun vs => putAll r is vs := by
  cases is with
  | nil => rfl
  | cons i is => cases is with
    | nil => cases c
    | cons j is => rfl
theorem isTgt_of {look : Str → Option NameKind} {N : List Str} {is : List Nat} {ts : List Expr} {k : Nat} {p : Pos} (c : (is.length != 1) = true) (h : isTgts look N is ts = true) : isTgt look N is (.Tuple ts k p) = true := by
  cases is with
  | nil => exact chk_of (a := ts) rfl h
  | cons i is => cases is with
    | nil => cases c
    | cons j is => exact chk_of (a := ts) rfl h
theorem tgt_tup {look : Str → Option NameKind} {N : List Str} {is : List Nat} {t : Expr} (c0 : (is.length != 1) = true) (h : isTgt look N is t = true) : ∃ ts k p, t = .Tuple ts k p := by
  refine @bc _ fun k_ => ?_
  cases is with
  | nil =>
    obtain ⟨ts, ⟨k, p, e⟩, _⟩ := chk_ok h
    exact k_ ⟨ts, k, p, e⟩
  | cons i is =>
    cases is with
    | nil => cases c0
    | cons j is =>
      obtain ⟨ts, ⟨k, p, e⟩, _⟩ := chk_ok h
      exact k_ ⟨ts, k, p, e⟩
theorem sS_asgT (FX : Fix K cA fA xA prog w base g₀ o₀ n) (is : List Nat) (e : E) : SS cA xA prog w base g₀ o₀ n (.asgT is e) := by
  intro x look N ck
  refine @bc _ fun k_ => ?_
  obtain ⟨⟨t, v⟩, ⟨pos, e0_⟩, cx⟩ := chk_ok ck
  apply k_; clear k_
  subst e0_
  refine @bc _ fun k_ => ?_
  obtain ⟨c0, cx⟩ := and_ok cx
  obtain ⟨c1, cx⟩ := and_ok cx
  obtain ⟨c2, cx⟩ := and_ok cx
  obtain ⟨c3, c4⟩ := and_ok cx
  obtain ⟨ts, k, p, e1_⟩ := tgt_tup c0 c1
  apply k_; clear k_ cx ck
  subst e1_
  intro env s W H r A X Rt Nx Qm Em S F hr Si fr h qn qr qx
  refine assign_oneT (swaps_no c2) c3 (soundE FX e c4 S F Si h (fun y H₁ v₁ s₁ W₁ e₁ S₁ r₁ h₁ => ?_) qx.ex)
  refine @bc _ fun k_ => ?_
  obtain ⟨r', hb, h₁⟩ := optB h₁
  obtain ⟨vs, _, hp⟩ := bind_is (bindT_many c0 hb)
  apply k_; clear k_
  exact bind_snd S₁ (F.ext0 e₁) Si.room.handled c1 (by rw [hr]; exact Nat.le_refl _) r₁ hb fun s₂ x₂ S₂ F₂ => qn _ _ _ _ ((np e₁).trans x₂) S₂ F₂ (by rw [(putAll_length hp).2, hr]) h₁
theorem asgEach_length {env : Env} : ∀ ts : List Expr, (assignEach ts env).length = ts.length := by
  intro ts
  induction ts with
  | nil => rfl
  | cons t ts ih => cases t <;> (show (assignEach ts env).length + 1 = ts.length + 1; rw [ih])
inductive AsgWOk (look : Str → Option NameKind) (N : List Str) (is : List Nat) (es : EL) (x : Stmt) : Prop
  | mk (ts vs : List Expr) (ns : List Str) (k : Nat) (p : Pos) (k' : Nat) (p' pos : Pos) (b : Bool) (e : x = .Assign [.Tuple ts k p] (.Tuple vs k' p') pos) (hn : namesOf ts = some ns) (h1 : isTgts look N is ts = true) (h2 : ∀ m ∈ ns, look m = some .local) (h3 : isEs look N es vs = true) (h4 : swapW ts vs ns = some b) (h5 : apartN is = true) (h6 : is.length < 100) (h7 : (is.length != 1) = true)
theorem isAsgW_ok {look : Str → Option NameKind} {N : List Str} {is : List Nat} {es : EL} {x : Stmt} (ck : isS look N (.asgW is es) x = true) : AsgWOk look N is es x := by
  refine @bc _ fun k_ => ?_
  obtain ⟨⟨t, v⟩, ⟨pos, e⟩, ck⟩ := chk_ok ck
  obtain ⟨ts, ⟨k, p, e1⟩, ck⟩ := chk_ok ck
  obtain ⟨vs, ⟨k', p', e2⟩, ck⟩ := chk_ok ck
  obtain ⟨ns, hn, ck⟩ := chk_ok ck
  obtain ⟨c1, ck⟩ := and_ok ck
  obtain ⟨c2, ck⟩ := and_ok ck
  obtain ⟨c3, ck⟩ := and_ok ck
  obtain ⟨c4, ck⟩ := and_ok ck
  obtain ⟨c5, ck⟩ := and_ok ck
  obtain ⟨c6, c7⟩ := and_ok ck
  obtain ⟨b, hb⟩ := Option.isSome_iff_exists.mp c4
  apply k_; clear k_
  have e1 : t = .Tuple ts k p := e1
  have e2 : v = .Tuple vs k' p' := e2
  exact ⟨ts, vs, ns, k, p, k', p', pos, b, by rw [e, e1, e2], hn, c1, fun m hm => eq_of_beq (List.all_eq_true.mp c2 m hm), c3, hb, c5, dec_ok c6, c7⟩
theorem sS_asgW (FX : Fix K cA fA xA prog w base g₀ o₀ n) (is : List Nat) (es : EL) : SS cA xA prog w base g₀ o₀ n (.asgW is es) := by
  intro x look N ck
  refine @bc _ fun k_ => ?_
  obtain ⟨ts, vs, ns, k, p, k', p', pos, b, e0_, hn, c1, c2, c3, hb, c5, c6, c7⟩ := isAsgW_ok ck
  apply k_; clear k_ ck
  subst e0_
  intro env s W H r A X Rt Nx Qm Em S F hr Si fr h qn qr qx
  have hsw := swap_is (k := k) (k' := k') (p := p) (p' := p') F.kind hn (fun m hm => F.looks _ _ (c2 m hm) (by decide)) (isEs_star c3) hb
  have l6 : is.length = ns.length := by
    simp only [← namesOf_length hn, ← (starNone (env := env) c1).2, asgEach_length]
  have val : ∀ {Qv : Value → Shared → Prop}, (∀ ys H₁ a r' s₁ W₁, Ext NP s W s₁ W₁ → StOk cA prog w base g₀ o₀ s₁ W₁ H₁ → Rep cA s₁.heap W₁ (.tup ys) (.ref a) → putAll r is ys = some r' → Nx r' H₁ → Qv (.ref a) s₁) → wpAny (model prog w) A (eval (.Tuple vs k' p') env) Qv Em s := by
    intro Qv hQ
    refine wpAny_Tuple (soundEs FX es c3 S F Si h (fun ys H₁ us s₁ W₁ e₁ S₁ r₁ h₁ => ?_) qx.ex)
    refine @bc _ fun k_ => ?_
    obtain ⟨r', hp, h₁⟩ := optB h₁
    obtain ⟨l1, l2⟩ := putAll_length hp
    apply k_; clear k_
    have l3 := r₁.length
    have hsz : ys.length ≤ lim := by unfold lim; (first | lia | omega)
    have o := made_tup S₁ hsz r₁
    exact ⟨by rw [← l3]; exact hsz, hQ ys H₁ _ r' _ _ (e₁.trans o.1) o.2.1 o.2.2 hp h₁⟩
  have hh := Si.room.handled
  cases b with
  | false =>
    refine PyProof.Rows.Assign_Tuple (val fun ys H₁ a r' s₁ W₁ e₁ S₁ r₁ hp h₁ => ?_) rfl hsw
    exact bind_snd S₁ (F.ext0 e₁) hh (isTgt_of c7 c1) (by rw [hr]; exact Nat.le_refl _) r₁ ((bindT_of c7).trans hp) fun s₂ x₂ S₂ F₂ => qn _ _ _ _ ((np e₁).trans x₂) S₂ F₂ (by rw [(putAll_length hp).2]; exact hr) h₁
  | true =>
    refine Assign_Tuple_swapped (val fun ys H₁ a r' s₁ W₁ e₁ S₁ r₁ hp h₁ => ?_) rfl hsw
    have hlen := (putAll_length hp).1
    simp only [← l6, hlen]
    refine unpack_snd S₁ hh r₁ rfl fun us h' kk rq => ?_
    have e₂ : Ext NP s₁ W₁ { s₁ with heap := h' } W₁ := Ext.of_keeps kk
    have S₂ : StOk cA prog w base g₀ o₀ { s₁ with heap := h' } W₁ H₁ := S₁.grow kk
    have hrev := putAll_rev (r := r) c5 hlen
    rw [hp] at hrev
    refine names_snd (is := is.reverse) (ms := ns.reverse) (xs := ys.reverse) (by simp [l6]) ?_ (by rw [hr]; exact Nat.le_refl _) S₂ (F.ext0 (e₁.trans e₂)) ((e₂.reps rq).reverse cA) hrev fun s₃ x₃ S₃ F₃ => qn _ _ _ _ ((np (e₁.trans e₂)).trans x₃) S₃ F₃ (by rw [(putAll_length hp).2]; exact hr) h₁
    intro q hq
    rw [zip_rev l6] at hq
    exact isTgts_zip c1 hn q (List.mem_reverse.mp hq)
theorem sS_setF (FX : Fix K cA fA xA prog w base g₀ o₀ n) (o : E) (c : Cls) (i : Nat) (e : E) : SS cA xA prog w base g₀ o₀ n (.setF o c i e) := by
  intro x look N ck
  refine @bc _ fun k_ => ?_
  obtain ⟨⟨t, v⟩, ⟨pos, e0_⟩, cx⟩ := chk_ok ck
  apply k_; clear k_ ck
  subst e0_
  refine @bc _ fun k_ => ?_
  obtain ⟨⟨y, nm⟩, ⟨p, ht⟩, cx⟩ := chk_ok cx
  apply k_; clear k_
  have ht : t = .Attribute y nm p := ht
  subst ht
  refine @bc _ fun k_ => ?_
  obtain ⟨c1, cx⟩ := and_ok cx
  obtain ⟨m, hm, c1⟩ := any_eq c1
  obtain ⟨c2, cx⟩ := and_ok cx
  obtain ⟨c3, c4⟩ := and_ok cx
  apply k_; clear k_
  have c1 : Str.ofString m = nm := eq_of_beq c1
  subst c1
  intro env s W H r A X Rt Nx Qm Em S F hr Si fr h qn qr qx
  refine assign_oneA (swaps_no c3) (soundE FX e c4 S F Si h (fun y₁ H₁ v₁ s₁ W₁ e₁ S₁ r₁ h₁ => ?_) qx.ex)
  refine assign_attr (soundE FX o c2 S₁ (F.ext0 e₁) (Si.ext e₁) h₁ (fun y₂ H₂ v₂ s₂ W₂ e₂ S₂ r₂ h₂ => ?_) (qx.ex.at e₁))
  obtain ⟨H', hH, hq⟩ := optB h₂
  refine wpAny_mono (putFld S₂ FX.KO.inK (FX.KO.cls c) r₂ (e₂.rep r₁) hH hm) (fun _ s' o => ?_) fun _ _ x => x
  obtain ⟨a1, a2, a3⟩ := storing (F.ext0 (e₁.trans e₂)) o
  exact qn _ _ _ _ ((np (e₁.trans e₂)).trans a1) a2 a3 hr hq
theorem sS_setI (FX : Fix K cA fA xA prog w base g₀ o₀ n) (o k e : E) : SS cA xA prog w base g₀ o₀ n (.setI o k e) := by
  intro x look N ck
  refine @bc _ fun k_ => ?_
  obtain ⟨⟨t, v⟩, ⟨pos, e0_⟩, cx⟩ := chk_ok ck
  apply k_; clear k_ ck
  subst e0_
  refine @bc _ fun k_ => ?_
  obtain ⟨⟨y, z⟩, ⟨p, ht, hs⟩, cx⟩ := chk_ok cx
  apply k_; clear k_
  have ht : t = .Subscript y z p := ht
  subst ht
  refine @bc _ fun k_ => ?_
  obtain ⟨c1, cx⟩ := and_ok cx
  obtain ⟨c2, cx⟩ := and_ok cx
  obtain ⟨c3, c4⟩ := and_ok cx
  apply k_; clear k_
  intro env s W H r A X Rt Nx Qm Em S F hr Si fr h qn qr qx
  refine assign_oneS (swaps_no c3) (soundE FX e c4 S F Si h (fun y₁ H₁ v₁ s₁ W₁ e₁ S₁ r₁ h₁ => ?_) qx.ex)
  refine assign_sub (soundE FX o c1 S₁ (F.ext0 e₁) (Si.ext e₁) h₁ (fun y₂ H₂ v₂ s₂ W₂ e₂ S₂ r₂ h₂ => soundE FX k c2 S₂ (F.ext0 (e₁.trans e₂)) (Si.ext (e₁.trans e₂)) h₂ (fun y₃ H₃ v₃ s₃ W₃ e₃ S₃ r₃ h₃ => ?_) (qx.ex.at (e₁.trans e₂))) (qx.ex.at e₁))
  obtain ⟨ki, hki, h₃⟩ := optB h₃
  rw [intV_eq hki] at r₃
  obtain ⟨H', hH, hq⟩ := optB h₃
  refine wpAny_mono (putItem S₃ (e₃.rep r₂) r₃ ((e₂.trans e₃).rep r₁) hH) (fun _ s' o => ?_) fun _ _ x => x
  have e₀ := (e₁.trans e₂).trans e₃
  obtain ⟨a1, a2, a3⟩ := storing (F.ext0 e₀) o
  exact qn _ _ _ _ ((np e₀).trans a1) a2 a3 hr hq
theorem sS_setD (FX : Fix K cA fA xA prog w base g₀ o₀ n) (o k e : E) : SS cA xA prog w base g₀ o₀ n (.setD o k e) := by
  intro x look N ck
  refine @bc _ fun k_ => ?_
  obtain ⟨⟨t, v⟩, ⟨pos, e0_⟩, cx⟩ := chk_ok ck
  apply k_; clear k_ ck
  subst e0_
  refine @bc _ fun k_ => ?_
  obtain ⟨⟨y, z⟩, ⟨p, ht, hs⟩, cx⟩ := chk_ok cx
  apply k_; clear k_
  have ht : t = .Subscript y z p := ht
  subst ht
  refine @bc _ fun k_ => ?_
  obtain ⟨c1, cx⟩ := and_ok cx
  obtain ⟨c2, cx⟩ := and_ok cx
  obtain ⟨c3, c4⟩ := and_ok cx
  apply k_; clear k_
  intro env s W H r A X Rt Nx Qm Em S F hr Si fr h qn qr qx
  refine assign_oneS (swaps_no c3) (soundE FX e c4 S F Si h (fun y₁ H₁ v₁ s₁ W₁ e₁ S₁ r₁ h₁ => ?_) qx.ex)
  refine assign_sub (soundE FX o c1 S₁ (F.ext0 e₁) (Si.ext e₁) h₁ (fun y₂ H₂ v₂ s₂ W₂ e₂ S₂ r₂ h₂ => soundE FX k c2 S₂ (F.ext0 (e₁.trans e₂)) (Si.ext (e₁.trans e₂)) h₂ (fun y₃ H₃ v₃ s₃ W₃ e₃ S₃ r₃ h₃ => ?_) (qx.ex.at (e₁.trans e₂))) (qx.ex.at e₁))
  obtain ⟨ki, hki, h₃⟩ := optB h₃
  rw [intV_eq hki] at r₃
  obtain ⟨H', hH, hq⟩ := optB h₃
  refine wpAny_mono (putDict S₃ (e₃.rep r₂) r₃ ((e₂.trans e₃).rep r₁) hH) (fun _ s' o => ?_) fun _ _ x => x
  have e₀ := (e₁.trans e₂).trans e₃
  obtain ⟨a1, a2, a3⟩ := storing (F.ext0 e₀) o
  exact qn _ _ _ _ ((np e₀).trans a1) a2 a3 hr hq
theorem sS_setS (FX : Fix K cA fA xA prog w base g₀ o₀ n) (o lo hi e : E) : SS cA xA prog w base g₀ o₀ n (.setS o lo hi e) := by
  intro x look N ck
  refine @bc _ fun k_ => ?_
  obtain ⟨⟨t, v⟩, ⟨pos, e0_⟩, cx⟩ := chk_ok ck
  apply k_; clear k_ ck
  subst e0_
  refine @bc _ fun k_ => ?_
  obtain ⟨⟨y, z, u⟩, ⟨p, p', ht⟩, cx⟩ := chk_ok cx
  apply k_; clear k_
  have ht : t = .Subscript y (.Slice (some z) (some u) none p) p' := ht
  subst ht
  refine @bc _ fun k_ => ?_
  obtain ⟨c1, cx⟩ := and_ok cx
  obtain ⟨c2, cx⟩ := and_ok cx
  obtain ⟨c3, c4⟩ := and_ok cx
  apply k_; clear k_
  intro env s W H r A X Rt Nx Qm Em S F hr Si fr h qn qr qx
  refine assign_oneS swaps_sub (soundE FX e c4 S F Si h (fun y₁ H₁ v₁ s₁ W₁ e₁ S₁ r₁ h₁ => ?_) qx.ex)
  refine assign_sub (soundE FX o c1 S₁ (F.ext0 e₁) (Si.ext e₁) h₁ (fun y₂ H₂ v₂ s₂ W₂ e₂ S₂ r₂ h₂ => ?_) (qx.ex.at e₁))
  have e₁₂ := e₁.trans e₂
  refine wpAny_Slice (soundE FX lo c2 S₂ (F.ext0 e₁₂) (Si.ext e₁₂) h₂ (fun y₃ H₃ v₃ s₃ W₃ e₃ S₃ r₃ h₃ => ?_) (qx.ex.at e₁₂))
  have e₁₃ := e₁₂.trans e₃
  refine soundE FX hi c3 S₃ (F.ext0 e₁₃) (Si.ext e₁₃) h₃ (fun y₄ H₄ v₄ s₄ W₄ e₄ S₄ r₄ h₄ => ?_) (qx.ex.at e₁₃)
  refine wpAny_pure ?_
  refine @bc _ fun k_ => ?_
  obtain ⟨l, hl_, h₄⟩ := optB h₄
  obtain ⟨hh, hh_, h₄⟩ := optB h₄
  apply k_; clear k_
  rw [intV_eq hl_] at r₃
  rw [intV_eq hh_] at r₄
  refine @bc _ fun k_ => ?_
  obtain ⟨ys, hys, h₄⟩ := optB h₄
  obtain ⟨H', hH, hq⟩ := optB h₄
  apply k_; clear k_
  have e₀ := e₁₃.trans e₄
  have e₅ : Ext NP s₄ W₄ { s₄ with heap := s₄.heap.push { cls := .type "slice", data := .fields #[v₃, v₄, .none] } } W₄ := Ext.of_keeps fun _ _ q => Heap.get?_push_of_some _ q
  have S₅ : StOk cA prog w base g₀ o₀ { s₄ with heap := s₄.heap.push { cls := .type "slice", data := .fields #[v₃, v₄, .none] } } W₄ H₄ := S₄.grow fun _ _ q => Heap.get?_push_of_some _ q
  obtain ⟨b, us, rfl, hb, hn, rq⟩ := itemsV_at S₅ (((e₂.trans e₃).trans e₄).trans e₅ |>.rep r₁) hys
  refine wpAny_mono (putSlice S₅ rfl hb rq (((e₃.trans e₄).trans e₅).rep r₂) (Heap.IsSliceOf.new ..) ((e₄.trans e₅).rep r₃) (e₅.rep r₄) hH) (fun _ s' o => ?_) fun _ _ x => x
  obtain ⟨a1, a2, a3⟩ := storing (F.ext0 (e₀.trans e₅)) o
  exact qn _ _ _ _ ((np (e₀.trans e₅)).trans a1) a2 a3 hr hq
theorem sS_ex (FX : Fix K cA fA xA prog w base g₀ o₀ n) (e : E) : SS cA xA prog w base g₀ o₀ n (.ex e) := by
  intro x look N ck
  refine @bc _ fun k_ => ?_
  obtain ⟨v, ⟨pos, e0_⟩, cx⟩ := chk_ok ck
  apply k_; clear k_ ck
  subst e0_
  obtain ⟨c1, c2⟩ := and_ok cx
  intro env s W H r A X Rt Nx Qm Em S F hr Si fr h qn qr qx
  exact wpAny_Expr_any (soundE FX e c2 S F Si h (fun y₁ H₁ v₁ s₁ W₁ e₁ S₁ r₁ h₁ => qn _ _ _ _ (np e₁) S₁ (F.ext0 e₁) hr h₁) qx.ex) (not_inter F.kind) (swaps_no c1)
theorem sS_app (FX : Fix K cA fA xA prog w base g₀ o₀ n) (o e : E) : SS cA xA prog w base g₀ o₀ n (.app o e) := by
  intro x look N ck
  refine @bc _ fun k_ => ?_
  obtain ⟨v, ⟨pos, e0_⟩, cx⟩ := chk_ok ck
  apply k_; clear k_
  subst e0_
  refine @bc _ fun k_ => ?_
  obtain ⟨y, z, ⟨ap, p, e0_, hb, hp, hs, hl⟩, c1, c2⟩ := meth1_eq cx
  apply k_; clear k_ cx ck
  subst e0_
  have hs' : notStar z = true := by simpa using hs
  intro env s W H r A X Rt Nx Qm Em S F hr Si fr h qn qr qx
  refine wpAny_Expr_any (mc_of hb hp hs hl (soundE FX o c1 S F Si h (fun y₁ H₁ v₁ s₁ W₁ e₁ S₁ r₁ h₁ pl => ?_) qx.ex)) (not_inter F.kind) rfl
  refine @bc _ fun k_ => ?_
  obtain ⟨hi, h₁⟩ := h₁
  obtain ⟨xs, hxs⟩ := Option.isSome_iff_exists.mp hi
  obtain ⟨ad, us, ep, e0_, ho⟩ := reads_lst S₁ r₁ hxs
  apply k_; clear k_
  subst e0_
  refine getMethod_builtin ⟨_, ho, rfl⟩ PySem.F.plainAttrs_list PySem.F.slot_list_append PySem.F.type_list_append (fun a' e => by cases e; exact ⟨_, ho, rfl⟩) ?_
  refine cw_of (fun _ => True) hs (nonref_keep fun _ q => by cases q) ?_
  refine wpAny_items_cons (soundE FX e c2 S₁ (F.ext0 e₁) (Si.ext e₁) h₁ (fun y₂ H₂ v₂ s₂ W₂ e₂ S₂ r₂ h₂ => wpAny_items_nil ⟨trivial, ?_⟩) (qx.ex.at e₁)) (starEach_cons hs')
  refine @bc _ fun k_ => ?_
  obtain ⟨H', hH, hq⟩ := optB h₂
  apply k_; clear k_
  refine wpAny_mono (call_appendL S₂ (e₂.rep r₁) r₂ hH) (fun _ s' o => ?_) fun _ _ x => x
  obtain ⟨a1, a2, a3⟩ := storing (F.ext0 (e₁.trans e₂)) o
  exact qn _ _ _ _ ((np (e₁.trans e₂)).trans a1) a2 a3 hr hq
theorem sS_pop0 (FX : Fix K cA fA xA prog w base g₀ o₀ n) (o : E) : SS cA xA prog w base g₀ o₀ n (.pop0 o) := by
  intro x look N ck
  refine @bc _ fun k_ => ?_
  obtain ⟨v, ⟨pos, e0_⟩, cx⟩ := chk_ok ck
  apply k_; clear k_
  subst e0_
  refine @bc _ fun k_ => ?_
  obtain ⟨y, z, ⟨ap, p, e0_, hb, hp, hs, hl⟩, c1, c2⟩ := meth1_eq cx
  apply k_; clear k_ cx ck
  subst e0_
  have hs' : notStar z = true := by simpa using hs
  have c2 := asInt_ok c2
  intro env s W H r A X Rt Nx Qm Em S F hr Si fr h qn qr qx
  refine wpAny_Expr_any (mc_of hb hp hs hl (soundE FX o c1 S F Si h (fun y₁ H₁ v₁ s₁ W₁ e₁ S₁ r₁ h₁ pl => ?_) qx.ex)) (not_inter F.kind) rfl
  refine @bc _ fun k_ => ?_
  obtain ⟨H', hH, hq⟩ := optB h₁
  obtain ⟨xs, hxs⟩ := popFrom_items hH
  obtain ⟨ad, us, ep, e0_, ho⟩ := reads_lst S₁ r₁ hxs
  apply k_; clear k_
  subst e0_
  refine getMethod_builtin ⟨_, ho, rfl⟩ PySem.F.plainAttrs_list PySem.F.slot_list_pop PySem.F.type_list_pop (fun a' e => by cases e; exact ⟨_, ho, rfl⟩) ?_
  refine cw_of (fun _ => True) hs (nonref_keep fun _ q => by cases q) ?_
  refine wpAny_items_cons (int_of c2 fun t t' => wpAny_items_nil ⟨trivial, ?_⟩) (starEach_cons hs')
  have e₂ : Ext NP s₁ W₁ { s₁ with toks := t' } W₁ := Ext.of_keeps fun _ _ q => q
  have S₂ : StOk cA prog w base g₀ o₀ { s₁ with toks := t' } W₁ H₁ := S₁.grow fun _ _ q => q
  refine wpAny_mono (call_pop0L S₂ (e₂.rep r₁) ⟨t, rfl⟩ hH) (fun _ s' o => ?_) fun _ _ x => x
  obtain ⟨a1, a2, a3⟩ := storing (F.ext0 (e₁.trans e₂)) o
  exact qn _ _ _ _ ((np (e₁.trans e₂)).trans a1) a2 a3 hr hq
theorem sS_dpop (FX : Fix K cA fA xA prog w base g₀ o₀ n) (o k : E) : SS cA xA prog w base g₀ o₀ n (.dpop o k) := by
  intro x look N ck
  refine @bc _ fun k_ => ?_
  obtain ⟨v, ⟨pos, e0_⟩, cx⟩ := chk_ok ck
  apply k_; clear k_
  subst e0_
  refine @bc _ fun k_ => ?_
  obtain ⟨y, z, ⟨ap, p, e0_, hb, hp, hs, hl⟩, c1, c2⟩ := meth1_eq cx
  apply k_; clear k_ cx ck
  subst e0_
  have hs' : notStar z = true := by simpa using hs
  intro env s W H r A X Rt Nx Qm Em S F hr Si fr h qn qr qx
  refine wpAny_Expr_any (mc_of hb hp hs hl (soundE FX o c1 S F Si h (fun y₁ H₁ v₁ s₁ W₁ e₁ S₁ r₁ h₁ pl => ?_) qx.ex)) (not_inter F.kind) rfl
  refine @bc _ fun k_ => ?_
  obtain ⟨hi, h₁⟩ := h₁
  obtain ⟨m1, hm1⟩ := Option.isSome_iff_exists.mp hi
  obtain ⟨ad, ps, e0_, _, hd, _⟩ := dictV_at S₁ r₁ hm1
  apply k_; clear k_
  subst e0_
  refine @bc _ fun k_ => ?_
  obtain ⟨od, es, ep, ho, ⟨hc1, hc2, hc3⟩, _⟩ := id hd
  apply k_; clear k_
  refine getMethod_builtin hd.typeIs PySem.F.plainAttrs_dict PySem.F.slot_dict_pop PySem.F.type_dict_pop (fun a' e => by cases e; exact ⟨_, ho, hc2⟩) ?_
  refine cw_of (fun _ => True) hs (nonref_keep fun _ q => by cases q) ?_
  refine wpAny_items_cons (soundE FX k c2 S₁ (F.ext0 e₁) (Si.ext e₁) h₁ (fun y₂ H₂ v₂ s₂ W₂ e₂ S₂ r₂ h₂ => wpAny_items_nil ⟨trivial, ?_⟩) (qx.ex.at e₁)) (starEach_cons hs')
  refine @bc _ fun k_ => ?_
  obtain ⟨ki, hki, h₂⟩ := optB h₂
  apply k_; clear k_
  rw [intV_eq hki] at r₂
  obtain ⟨H', hH, hq⟩ := optB h₂
  refine wpAny_mono (call_popD S₂ (e₂.rep r₁) r₂ hH) (fun _ s' o => ?_) fun _ _ x => x
  obtain ⟨a1, a2, a3⟩ := storing (F.ext0 (e₁.trans e₂)) o
  exact qn _ _ _ _ ((np (e₁.trans e₂)).trans a1) a2 a3 hr hq
theorem sS_ret (FX : Fix K cA fA xA prog w base g₀ o₀ n) (e : E) : SS cA xA prog w base g₀ o₀ n (.ret e) := by
  intro x look N ck
  refine @bc _ fun k_ => ?_
  obtain ⟨v, ⟨pos, e0_⟩, cx⟩ := chk_ok ck
  apply k_; clear k_ ck
  subst e0_
  intro env s W H r A X Rt Nx Qm Em S F hr Si fr h qn qr qx
  cases v with
  | some v => exact wpAny_Return_some (soundE FX e cx S F Si h (fun y₁ H₁ v₁ s₁ W₁ e₁ S₁ r₁ h₁ => qr _ _ _ _ _ (np e₁) S₁ r₁ h₁) qx.ex)
  | none =>
    rw [(some_ok cx : e = .none)] at h
    exact wpAny_Return_none (qr .none H .none s W (Ext.refl ..) S rfl h)
theorem sS_ite (FX : Fix K cA fA xA prog w base g₀ o₀ n) (t : E) {a b : SL} (ha : SSL cA xA prog w base g₀ o₀ n a) (hb : SSL cA xA prog w base g₀ o₀ n b) : SS cA xA prog w base g₀ o₀ n (.ite t a b) := by
  intro x look N ck
  refine @bc _ fun k_ => ?_
  obtain ⟨⟨v, c, d⟩, ⟨pos, e0_⟩, cx⟩ := chk_ok ck
  apply k_; clear k_ ck
  subst e0_
  obtain ⟨c1, cx⟩ := and_ok cx
  obtain ⟨c2, c3⟩ := and_ok cx
  intro env s W H r A X Rt Nx Qm Em S F hr Si fr h qn qr qx
  refine wpAny_If (soundT FX t c1 S F Si h (fun _ _ h => h) (fun c' H₁ s₁ W₁ e₁ S₁ h₁ => ?_) qx.ex)
  cases c'
  · exact hb c3 S₁ (F.ext0 e₁) hr (Si.ext e₁) fr h₁ (qn.at (np e₁)) (qr.at (np e₁)) (qx.at (np e₁))
  · exact ha c2 S₁ (F.ext0 e₁) hr (Si.ext e₁) fr h₁ (qn.at (np e₁)) (qr.at (np e₁)) (qx.at (np e₁))
theorem sS_whl (FX : Fix K cA fA xA prog w base g₀ o₀ n) (t : E) {b : SL} (hb : SSL cA xA prog w base g₀ o₀ n b) : SS cA xA prog w base g₀ o₀ n (.whl t b) := by
  intro x look N ck
  refine @bc _ fun k_ => ?_
  obtain ⟨⟨v, c⟩, ⟨pos, e0_⟩, cx⟩ := chk_ok ck
  apply k_; clear k_ ck
  subst e0_
  obtain ⟨c1, c2⟩ := and_ok cx
  intro env s W H r A X Rt Nx Qm Em S F hr Si fr h qn qr qx
  obtain ⟨m, h⟩ := h
  refine wpAny_While (codeAny_whileLoop (fun m s' => ∃ W' H' r', Ext (PEnv look env) s W s' W' ∧ StOk cA prog w base g₀ o₀ s' W' H' ∧ FrOk cA look N env s' W' r' ∧ r'.length = N.length ∧
    whlRec (fun r H K => wpE (callAt defs n) (fun _ => False) r t H fun v H => boolP v fun c => K c H) (fun r H K => wpSL (callAt defs n) (fun _ => False) Rt b r H K) m r' H' Nx) ?_ m ⟨W, H, r, Ext.refl .., S, F, hr, h⟩)
  intro m s' z2_
  refine @bc _ fun k_ => ?_
  obtain ⟨W', H', r', e', S', F', hr', h'⟩ := z2_
  apply k_; clear k_
  cases m with
  | zero => exact h'.elim
  | succ m =>
    refine soundT FX t c1 (X := fun _ => False) S' F' (Si.ext e') h' (fun _ _ h => h) (fun c' H₁ s₁ W₁ e₁ S₁ h₁ => ?_) fun _ _ _ _ _ _ _ q => q.elim
    cases c'
    · exact wpAny_execs_nil (qn _ _ _ _ (e'.trans (np e₁)) S₁ (F'.ext0 e₁) hr' h₁)
    · exact hb c2 (X := fun _ => False) (Qm := fun f s₃ => match f with
        | .next | .cont => ∃ m', m' < m + 1 ∧ ∃ W' H' r', Ext (PEnv look env) s W s₃ W' ∧ StOk cA prog w base g₀ o₀ s₃ W' H' ∧ FrOk cA look N env s₃ W' r' ∧ r'.length = N.length ∧
            whlRec (fun r H K => wpE (callAt defs n) (fun _ => False) r t H fun v H => boolP v fun c => K c H) (fun r H K => wpSL (callAt defs n) (fun _ => False) Rt b r H K) m' r' H' Nx
        | .brk => Qm .next s₃
        | .ret v => Qm (.ret v) s₃) S₁ (F'.ext0 e₁) hr' (Si.ext (e'.trans (np e₁))) fr h₁
        (fun r'' H'' s'' W'' e'' S'' F'' hr'' h'' => ⟨m, Nat.lt_succ_self m, W'', H'', r'', (e'.trans (np e₁)).trans e'', S'', F'', hr'', h''⟩)
        (fun y H₂ v₂ s₂ W₂ e₂ S₂ r₂ h₂ => qr _ _ _ _ _ ((e'.trans (np e₁)).trans e₂) S₂ r₂ h₂) fun _ _ _ _ _ _ _ q => q.elim
inductive ForInv (cA : Cls → Addr) (prog : Program) (w : World) (base : Heap) (g₀ : Array GenState) (o₀ : OsState) (look : Str → Option NameKind) (N : List Str) (env : Env) (s₁ : Shared) (W₁ : Wd) (T : Nat → Heap → Prop) (xs : List V) (I : Addr) (L : List V → Loc → St → Prop) (m : Nat) (s' : Shared) : Prop
  | mk (i : Nat) (W' : Wd) (H' : St) (r' : Loc) (hi : i ≤ xs.length) (hm : m = xs.length + 1 - i) (e : Ext (PEnv look env) s₁ W₁ s' W') (S : StOk cA prog w base g₀ o₀ s' W' H') (F : FrOk cA look N env s' W' r') (hr : r'.length = N.length) (wI : W' I = some .temp) (st : T i s'.heap) (h : L (xs.drop i) r' H') : ForInv cA prog w base g₀ o₀ look N env s₁ W₁ T xs I L m s'
theorem sS_for (FX : Fix K cA fA xA prog w base g₀ o₀ n) (is : List Nat) (it : E) {b : SL} (hsl : SSL cA xA prog w base g₀ o₀ n b) : SS cA xA prog w base g₀ o₀ n (.for_ is it b) := by
  intro x look N ck
  refine @bc _ fun k_ => ?_
  obtain ⟨⟨t, v, c⟩, ⟨pos, e0_⟩, cx⟩ := chk_ok ck
  obtain ⟨c1, cx⟩ := and_ok cx
  obtain ⟨c2, cx⟩ := and_ok cx
  obtain ⟨c3, c4⟩ := and_ok cx
  apply k_; clear k_ cx ck
  subst e0_
  intro env s W H r A X Rt Nx Qm Em S F hr Si fr h qn qr qx
  refine wpAny_For (soundE FX it c2 S F Si h (fun y₁ H₁ v₁ s₁ W₁ e₁ S₁ r₁ h₁ => ?_) qx.ex) (fun _ => folded_of c3)
  obtain ⟨xs, hxs, h₁⟩ := optB h₁
  refine iter_snd S₁ Si.room.handled r₁ hxs fun I s₂ T hI k₂ g₂ o₂ STP st₀ => ?_
  have F₁ := F.ext0 e₁
  have hWI : W₁ I = .none := S₁.free hI
  have e₂ : Ext NP s₁ W₁ s₂ (W₁.put I .temp) := Ext.owned hI hWI k₂
  have hPI : ∀ b, PEnv look env b → b ≠ I := fun b hb q => by
    have := PEnv.mach F₁ hb
    rw [q, hWI] at this; cases this
  refine codeAny_forLoop_any (ForInv cA prog w base g₀ o₀ look N env s₁ W₁ T xs I fun l r H => forRec (fun x r H K => optP (bindT r is x) fun r' => wpSL (callAt defs n) (fun _ => False) Rt b r' H K) l r H Nx) (fun m s' inv => ?_) (xs.length + 1) ⟨0, _, H₁, r, Nat.zero_le _, rfl, np e₂, S₁.owned hI k₂ (STP.live 0 _ st₀) g₂ o₂, F₁.ext0 e₂, hr, Wd.put_self .., st₀, h₁⟩
  refine @bc _ fun k_ => ?_
  clear st₀ k₂ g₂ o₂ h h₁ hxs r₁ e₂ S F
  refine @bc _ fun k_ => ?_
  obtain ⟨i, W', H', r', hi, hm, e', S', F', hr', wI', st', h'⟩ := inv
  apply k_; clear k_
  by_cases hlt : i < xs.length
  · have hxi : xs[i]? = some xs[i] := List.getElem?_eq_getElem hlt
    rw [List.drop_eq_getElem_cons hlt] at h'
    obtain ⟨r'', hb, h'⟩ := optB (show optP (bindT r' is xs[i]) _ from h')
    refine k_ (STP.item i xs[i] s' _ _ hxi st' fun u h3 tk ru st'' kk => ?_)
    clear k_
    have x4 : Ext (· = I) s' W' { s' with heap := h3, toks := tk } W' := Ext.mine wI' kk
    have e4 : Ext (PEnv look env) s₁ W₁ { s' with heap := h3, toks := tk } W' := ((e'.weaken (P' := fun b => PEnv look env b ∨ b = I) fun b q => .inl q).trans (x4.weaken fun b q => .inr q)).narrowP fun b q => q.elim .inl fun q => .inr (by rw [q]; exact hWI)
    refine STP.letGo i _ _ _ xs[i] _ _ st'' hxi ru ?_
    refine bind_snd (S'.mine (s' := { s' with heap := h3, toks := tk }) wI' kk (STP.live _ _ st'')) (F'.ext x4 fun b hb q => hPI b hb q) Si.room.handled c1 (by rw [hr']; exact Nat.le_refl _) (e4.rep ru) hb fun s5 x5 S5 F5 => ?_
    have e5 := e4.trans x5
    have st5 : T (i + 1) s5.heap := STP.frame _ _ _ st'' (fun o e => (x5.temp I o wI' (fun q => hPI I q rfl) e).1) fun b o hb e => (e5.keep b o hb e).1
    clear x4 e4 x5 e' F' S' st' st'' kk
    refine hsl c4 (X := fun _ => False) (Qm := fun f s₃ => match f with
        | .next | .cont => ∃ m', m' < m ∧ ForInv cA prog w base g₀ o₀ look N env s₁ W₁ T xs I (fun l r H => forRec (fun x r H K => optP (bindT r is x) fun r' => wpSL (callAt defs n) (fun _ => False) Rt b r' H K) l r H Nx) m' s₃
        | .brk => Qm .next s₃
        | .ret v => Qm (.ret v) s₃) S5 F5 ((bindT_length hb).trans hr') (Si.ext ((np e₁).trans e5)) fr h' (fun r6 H6 s6 W6 e6 S6 F6 hr6 h6 => ?_) (fun y H₆ v₆ s₆ W₆ e₆ S₆ r₆ h₆ => qr _ _ _ _ _ (((np e₁).trans e5).trans e₆) S₆ r₆ h₆) fun _ _ _ _ _ _ _ q => q.elim
    exact ⟨xs.length + 1 - (i + 1), by (first | lia | omega), i + 1, W6, H6, r6, hlt, rfl, e5.trans e6, S6, F6, hr6, temp_on e6 wI' (fun q => hPI I q rfl) (STP.live _ _ st5), STP.frame _ _ _ st5 (fun o e => (e6.temp I o wI' (fun q => hPI I q rfl) e).1) (fun b o hb e => ((e5.trans e6).keep b o hb e).1), h6⟩
  · have hi' : xs.length = i := by (first | lia | omega)
    rw [← hi'] at st' h'
    rw [List.drop_length] at h'
    refine k_ (STP.done s' _ _ st' fun h3 tk kk => ?_)
    exact wpAny_execs_nil (qn _ _ _ _ ((np e₁).trans (e'.lose (t := tk) hWI hI kk)) (S'.gone (s' := { s' with heap := h3, toks := tk }) (.inl wI') kk) (F'.lose (t := tk) hPI (by rw [wI']; exact fun q => by cases q) kk) hr' h')
theorem sSL_nil : SSL cA xA prog w base g₀ o₀ n .nil := by
  intro x look N env s W H r A X Rt Nx Qm Em ck S F hr Si fr h qn qr qx
  rw [(some_ok ck : x = [])]
  exact wpAny_execs_nil (qn r H s W (Ext.refl ..) S F hr h)
set_option backward.match.sparseCases true in
theorem sSL_cons {t : S} {ts : SL} (ht : SS cA xA prog w base g₀ o₀ n t) (hts : SSL cA xA prog w base g₀ o₀ n ts) : SSL cA xA prog w base g₀ o₀ n (.cons t ts) := by
  intro x look N env s W H r A X Rt Nx Qm Em ck S F hr Si fr h qn qr qx
  cases x with
  | nil => cases ck
  | cons y ys =>
    obtain ⟨c1, c2⟩ := and_ok ck
    refine wpAny_execs_cons (ht c1 S F hr Si fr h (Qm := fun f s' => match f with | .next => wpAny (model prog w) A (execs ys env) Qm Em s' | f => Qm f s') (fun r' H' s' W' e' S' F' hr' h' => ?_) qr qx)
    exact hts c2 S' F' hr' (Si.ext e') fr h' (qn.at e') (qr.at e') (qx.at e')
mutual
theorem soundS (FX : Fix K cA fA xA prog w base g₀ o₀ n) (RS : RaiseSnd cA xA prog w base g₀ o₀ n) (TS : TrySnd cA xA prog w base g₀ o₀ n) : ∀ t : S, SS cA xA prog w base g₀ o₀ n t
  | .asg i e => sS_asg FX i e
  | .asgT is e => sS_asgT FX is e
  | .asgW is es => sS_asgW FX is es
  | .setF o c i e => sS_setF FX o c i e
  | .setI o k e => sS_setI FX o k e
  | .setD o k e => sS_setD FX o k e
  | .setS o lo hi e => sS_setS FX o lo hi e
  | .ex e => sS_ex FX e
  | .app o e => sS_app FX o e
  | .pop0 o => sS_pop0 FX o
  | .dpop o k => sS_dpop FX o k
  | .ret e => sS_ret FX e
  | .ite t a b => sS_ite FX t (soundSL FX RS TS a) (soundSL FX RS TS b)
  | .whl t b => sS_whl FX t (soundSL FX RS TS b)
  | .for_ is it b => sS_for FX is it (soundSL FX RS TS b)
  | .try_ e i => TS e i
  | .raise_ es => RS es
  | .bad => sS_bad
theorem soundSL (FX : Fix K cA fA xA prog w base g₀ o₀ n) (RS : RaiseSnd cA xA prog w base g₀ o₀ n) (TS : TrySnd cA xA prog w base g₀ o₀ n) : ∀ t : SL, SSL cA xA prog w base g₀ o₀ n t
  | .nil => sSL_nil
  | .cons t ts => sSL_cons (soundS FX RS TS t) (soundSL FX RS TS ts)
end
end
end Mine
set_option backward.match.sparseCases true
namespace Mine
open PySem PySem.W PyProof.Rows PySem.SeqAt PySem.Calls
noncomputable def veil (h : Heap) (D : Addr → Prop) : Heap := by classical exact { h with objs := h.objs.mapIdx fun i o => if D i then { o with data := .freed } else o }
theorem veil_in (h : Heap) {D : Addr → Prop} {a : Addr} (hd : D a) : (veil h D).get? a = none := by
  cases q : (veil h D).get? a with
  | none => rfl
  | some o =>
    obtain ⟨e1, e2⟩ := Heap.get?_some_iff.mp q
    simp only [veil, Array.getElem?_mapIdx] at e1
    cases hx : h.objs[a]? with
    | none => rw [hx] at e1; cases e1
    | some x =>
      rw [hx] at e1
      simp only [Option.map_some, if_pos hd, Option.some.injEq] at e1
      subst e1
      exfalso
      cases e2
theorem veil_out (h : Heap) {D : Addr → Prop} {a : Addr} (hd : ¬ D a) : (veil h D).get? a = h.get? a := by
  cases q : h.get? a with
  | none =>
    cases q' : (veil h D).get? a with
    | none => rfl
    | some o =>
      obtain ⟨e1, e2⟩ := Heap.get?_some_iff.mp q'
      simp only [veil, Array.getElem?_mapIdx] at e1
      cases hx : h.objs[a]? with
      | none => rw [hx] at e1; cases e1
      | some x =>
        rw [hx] at e1
        simp only [Option.map_some, if_neg hd, Option.some.injEq] at e1
        subst e1
        rw [Heap.get?_some_iff.mpr ⟨hx, e2⟩] at q
        exact nomatch q
  | some o =>
    obtain ⟨e1, e2⟩ := Heap.get?_some_iff.mp q
    refine Heap.get?_some_iff.mpr ⟨?_, e2⟩
    simp only [veil, Array.getElem?_mapIdx, e1, Option.map_some, if_neg hd]
section
variable {w : World} {base : Heap} {g₀ : Array GenState} {o₀ : OsState}
variable {K : Frag} {n : Nat} {A : Around} {s : Shared} {W : Wd} {H : St}
noncomputable def XD (s : Shared) (W : Wd) (b : Addr) : Prop := W b = some .exc ∨ (W b = some .mach ∧ ∀ o, s.heap.get? b = some o → ∀ vs, o.data ≠ .fields vs)
theorem left_snd (S : StOk cA prog w base g₀ o₀ s W H) {l : List Env} {a : Addr} {h' : Heap} (ha : W a = some .exc) (hL : Heap.Left (veil s.heap (XD s W)) l a (.ref xA) s.heap h') :
    ∃ W', Ext NP s W { s with heap := h' } W' ∧ StOk cA prog w base g₀ o₀ { s with heap := h' } W' H ∧ Flies xA (.ref a) { s with heap := h' } W' := by
  refine @bc _ fun k_ => ?_
  obtain ⟨k1, k2, ⟨oe, vs, T, oT, ts, t1, t2, t3, t4, t5, t6, t7, t8, t9⟩, k4⟩ := hL
  apply k_; clear k_
  have stay : ∀ b o, ¬ XD s W b → s.heap.get? b = some o → h'.get? b = some o := fun b o hb e => k1 b o (by rw [veil_out _ hb]; exact e)
  have hT : W T = some .exc ∨ W T = .none ∧ s.heap.get? T = none := by
    by_cases hd : XD s W T
    · rcases hd with hd | ⟨hd, hd'⟩
      · exact .inl hd
      · obtain ⟨o, e⟩ := S.live T (by rw [hd]; exact fun q => by cases q)
        refine @bc _ fun k_ => ?_
        obtain ⟨sl, e'⟩ := k4 T o e (hd' o e)
        apply k_; clear k_
        rw [t7] at e'; cases e'
        exact absurd t8 (hd' o e ts)
    · rw [veil_out _ hd] at t5
      exact .inr ⟨S.free t5, t5⟩
  let W' : Wd := fun b => if b = T ∨ b = a then some .exc else if W b = some .exc then .none else W b
  have wn : ∀ b, W b ≠ some .exc → b ≠ T ∨ W b = .none → W' b = W b ∨ (b = T ∧ W b = .none) := fun b h1 h2 => by
    by_cases q : b = T
    · rcases h2 with h2 | h2
      · exact absurd q h2
      · exact .inr ⟨q, h2⟩
    · left
      have : ¬ (b = T ∨ b = a) := by rintro (z | z); exact q z; rw [z, ha] at h1; exact h1 rfl
      simp only [W', if_neg this, if_neg h1]
  have ne : ∀ b o, s.heap.get? b = some o → W b ≠ some .exc → b ≠ T := fun b o e h1 q => by
    subst q
    rcases hT with hT | ⟨_, hT⟩
    · exact h1 hT
    · rw [hT] at e; cases e
  have same : ∀ b o, s.heap.get? b = some o → W b ≠ some .exc → W' b = W b := fun b o e h1 => by
    rcases wn b h1 (.inl (ne b o e h1)) with q | ⟨q, _⟩
    · exact q
    · exact absurd q (ne b o e h1)
  have nx : ∀ b, W b ≠ some .exc → W b ≠ some .mach → ¬ XD s W b := fun b h1 h2 => by
    rintro (q | ⟨q, _⟩)
    · exact h1 q
    · exact h2 q
  have E' : Ext NP s W { s with heap := h' } W' := by
    refine ⟨fun b o hw e => ?_, fun b hw => ?_, fun b o hw _ e => ?_, fun b o hw e h => ?_, fun b o hw _ e => ?_⟩
    · exact ⟨stay b o (nx b (by rw [hw]; exact fun q => by cases q) (by rw [hw]; exact fun q => by cases q)) e, (same b o e (by rw [hw]; exact fun q => by cases q)).trans hw⟩
    · obtain ⟨o, e⟩ := S.live b (by rw [hw]; exact fun q => by cases q)
      exact (same b o e (by rw [hw]; exact fun q => by cases q)).trans hw
    · by_cases hd : XD s W b
      · rcases hd with hd | ⟨_, hd⟩
        · rw [hw] at hd; cases hd
        · exact k4 b o e (hd o e)
      · exact ⟨o.slots, stay b o hd e⟩
    · obtain ⟨sl, e'⟩ := k4 b o e h
      exact ⟨_, e', h⟩
    · exact ⟨stay b o (nx b (by rw [hw]; exact fun q => by cases q) (by rw [hw]; exact fun q => by cases q)) e, (same b o e (by rw [hw]; exact fun q => by cases q)).trans hw⟩
  refine ⟨W', E', ⟨fun b o e => ?_, fun b o e => ?_, fun b hw => ?_, fun t b o e => ?_, S.gens, S.os⟩, a, oe, vs, rfl, by simp [W'], t1, t2, t3, .inr ⟨T, oT, ts, t4, t6, by simp [W'], t7, t8, t9⟩⟩
  · exact stay b o (nx b (by rw [S.wbase b o e]; exact fun q => by cases q) (by rw [S.wbase b o e]; exact fun q => by cases q)) (S.keep b o e)
  · have h1 := S.wbase b o e
    exact (same b o (S.keep b o e) (by rw [h1]; exact fun q => by cases q)).trans h1
  · by_cases q : b = T ∨ b = a
    · rcases q with q | q
      · subst q; exact ⟨_, t7⟩
      · subst q; exact ⟨_, t1⟩
    · have h1 : W' b = if W b = some .exc then .none else W b := by simp only [W', if_neg q]
      by_cases hx : W b = some .exc
      · rw [h1, if_pos hx] at hw; exact absurd rfl hw
      · rw [h1, if_neg hx] at hw
        obtain ⟨o, e⟩ := S.live b hw
        by_cases hd : XD s W b
        · rcases hd with hd | ⟨_, hd⟩
          · exact absurd hd hx
          · obtain ⟨sl, e'⟩ := k4 b o e (hd o e); exact ⟨_, e'⟩
        · exact ⟨o, stay b o hd e⟩
  · refine (S.objs t b o e).keeps (fun b o hw e => E'.keep b o hw e) fun b o hw e => ?_
    exact ⟨stay b o (nx b (by rw [hw]; exact fun q => by cases q) (by rw [hw]; exact fun q => by cases q)) e, (same b o e (by rw [hw]; exact fun q => by cases q)).trans hw⟩
theorem leaving_snd (S : StOk cA prog w base g₀ o₀ s W H) {env : Env} {outer : List Env} {L : Addr} {e : Value} {E : Value → Shared → Prop} {Q : Unit → Shared → Prop} (Si : Site A n s W) (hfr : A.frames = some (env :: outer)) (hf : env.frame = some L) (fl : Flies xA e s W)
    (h : ∀ s' W', Ext NP s W s' W' → StOk cA prog w base g₀ o₀ s' W' H → Flies xA e s' W' → Q () s') : wpAny (model prog w) A (leaving env e) Q E s := by
  refine @bc _ fun k_ => ?_
  obtain ⟨a, oe, vs, e0_, wa, g1, g2, g3, g4⟩ := fl
  apply k_; clear k_
  subst e0_
  refine @bc _ fun k_ => ?_
  obtain ⟨R, l, hl, hall⟩ := Si
  apply k_; clear k_
  rw [hfr] at hl
  have e_ := Option.some.inj hl
  subst e_
  have frames : ∀ l : List Env, (∀ en ∈ l, en.scope.kind ≠ .module ∧ ∃ L o, en.frame = some L ∧ W L = some .mach ∧ s.heap.get? L = some o ∧ ∀ vs, o.data ≠ .fields vs) → s.heap.FunFrames (veil s.heap (XD s W)) l := by
    intro l
    induction l with
    | nil => intro _; trivial
    | cons en r ih =>
      intro hl
      refine @bc _ fun k_ => ?_
      obtain ⟨h1, L', o, h2, h3, h4, h5⟩ := hl en (by simp)
      apply k_; clear k_
      exact ⟨h1, ⟨L', o, h2, veil_in _ (.inr ⟨h3, fun o' e => by rw [h4] at e; cases e; exact h5⟩), h4, h5⟩, ih fun x hx => hl x (by simp [hx])⟩
  have hFF := frames _ hall
  have hkb : (veil s.heap (XD s W)).StaysIn s.heap := fun b o e => by
    by_cases hd : XD s W b
    · rw [veil_in _ hd] at e; cases e
    · rw [veil_out _ hd] at e; exact e
  have hen : (veil s.heap (XD s W)).get? a = none := veil_in _ (.inl wa)
  have fin : ∀ h', Heap.Left (veil s.heap (XD s W)) (env :: outer) a (.ref xA) s.heap h' → Q () { s with heap := h' } := fun h' hL => by
    refine @bc _ fun k_ => ?_
    obtain ⟨W', a1, a2, a3⟩ := left_snd S wa hL
    apply k_; clear k_
    exact h _ W' a1 a2 a3
  refine @bc _ fun k_ => ?_
  rcases g4 with g4 | ⟨T, oT, ts, t1, t2, t3, t4, t5, t6⟩ <;> (apply k_; clear k_)
  · exact wpAny_leaving_first hfr hFF hf g1 hkb hen g3 g4 (by rw [g2]; exact fin)
  · exact wpAny_leaving_next hfr hFF hf ⟨oe, vs, T, oT, ts, g1, g2, g3, t1, veil_in _ (.inl t3), t2, t4, t5, t6⟩ hkb hen fin
end
end Mine
set_option backward.match.sparseCases true
namespace Mine
open PySem PySem.W PyProof.Rows PySem.SeqAt PySem.Calls
theorem bindL_skip {kindOf : Str → Option NameKind} : ∀ {ns : List Str} {vs : List Value} {m : Str → Option Value} {n : Str}, ns.all (fun k => !(k == n)) = true → bindL kindOf (ns.zip vs) m n = m n
  | [], _, _, _, _ => rfl
  | k :: ns, [], _, _, _ => rfl
  | k :: ns, v :: vs, m, n, h => by
    rw [List.all_cons, Bool.and_eq_true, Bool.not_eq_true', beq_eq_false_iff_ne] at h
    rw [List.zip_cons_cons]
    unfold bindL
    rw [bindL_skip h.2]
    split
    · exact if_neg (Ne.symm h.1)
    · rfl
theorem bindC_skip {kindOf : Str → Option NameKind} : ∀ {ns : List Str} {vs : List Value} {m : Str → Option Value} {n : Str}, ns.all (fun k => !(k == n)) = true → bindC kindOf (ns.zip vs) m n = m n
  | [], _, _, _, _ => rfl
  | k :: ns, [], _, _, _ => rfl
  | k :: ns, v :: vs, m, n, h => by
    rw [List.all_cons, Bool.and_eq_true, Bool.not_eq_true', beq_eq_false_iff_ne] at h
    rw [List.zip_cons_cons]
    unfold bindC
    rw [bindC_skip h.2]
    split
    · rfl
    · exact if_neg (Ne.symm h.1)
theorem bindL_get {kindOf : Str → Option NameKind} : ∀ {ns : List Str} {vs : List Value} {m : Str → Option Value} {i : Nat} {n : Str} {v : Value}, apartS ns = true → ns[i]? = some n → vs[i]? = some v → kindOf n = some .local → bindL kindOf (ns.zip vs) m n = some v
  | [], _, _, _, _, _, _, h, _, _ => by simp at h
  | _ :: _, [], _, _, _, _, _, _, h, _ => by simp at h
  | k :: ns, u :: vs, m, 0, n, v, ha, h1, h2, hk => by
    simp at h1 h2
    subst h1; subst h2
    simp only [apartS, Bool.and_eq_true] at ha
    rw [List.zip_cons_cons]
    unfold bindL
    rw [bindL_skip ha.1, if_pos hk, if_pos rfl]
  | k :: ns, u :: vs, m, i + 1, n, v, ha, h1, h2, hk => by
    simp only [apartS, Bool.and_eq_true] at ha
    rw [List.zip_cons_cons]
    unfold bindL
    exact bindL_get ha.2 (by simpa using h1) (by simpa using h2) hk
theorem bindC_get {kindOf : Str → Option NameKind} : ∀ {ns : List Str} {vs : List Value} {m : Str → Option Value} {i : Nat} {n : Str} {v : Value}, apartS ns = true → ns[i]? = some n → vs[i]? = some v → kindOf n ≠ some .local → bindC kindOf (ns.zip vs) m n = some v
  | [], _, _, _, _, _, _, h, _, _ => by simp at h
  | _ :: _, [], _, _, _, _, _, _, h, _ => by simp at h
  | k :: ns, u :: vs, m, 0, n, v, ha, h1, h2, hk => by
    simp at h1 h2
    subst h1; subst h2
    simp only [apartS, Bool.and_eq_true] at ha
    rw [List.zip_cons_cons]
    unfold bindC
    rw [bindC_skip ha.1, if_neg hk, if_pos rfl]
  | k :: ns, u :: vs, m, i + 1, n, v, ha, h1, h2, hk => by
    simp only [apartS, Bool.and_eq_true] at ha
    rw [List.zip_cons_cons]
    unfold bindC
    exact bindC_get ha.2 (by simpa using h1) (by simpa using h2) hk
theorem lookup_zip : ∀ {ns : List Str} {vs : List Value} {n : Str}, ns.all (fun k => !(k == n)) = true → (ns.zip vs).reverse.lookup n = none
  | [], _, _, _ => rfl
  | k :: ns, [], _, _ => rfl
  | k :: ns, v :: vs, n, h => by
    rw [List.all_cons, Bool.and_eq_true, Bool.not_eq_true', beq_eq_false_iff_ne] at h
    simp only [List.zip_cons_cons, List.reverse_cons, List.lookup_append, lookup_zip h.2]
    have : (n == k) = false := by rw [beq_eq_false_iff_ne]; exact Ne.symm h.1
    simp [List.lookup_cons, this]
theorem lookup_get : ∀ {ns : List Str} {vs : List Value} {i : Nat} {n : Str} {v : Value}, apartS ns = true → ns[i]? = some n → vs[i]? = some v → (ns.zip vs).reverse.lookup n = some v
  | [], _, _, _, _, _, h, _ => by simp at h
  | _ :: _, [], _, _, _, _, _, h => by simp at h
  | k :: ns, u :: vs, 0, n, v, ha, h1, h2 => by
    simp at h1 h2
    subst h1; subst h2
    simp only [apartS, Bool.and_eq_true] at ha
    rw [List.zip_cons_cons, List.reverse_cons, List.lookup_append, lookup_zip ha.1]
    simp [List.lookup_cons]
  | k :: ns, u :: vs, i + 1, n, v, ha, h1, h2 => by
    simp only [apartS, Bool.and_eq_true] at ha
    rw [List.zip_cons_cons, List.reverse_cons, List.lookup_append, lookup_get ha.2 (by simpa using h1) (by simpa using h2)]
    rfl
theorem apartS_take : ∀ {ns : List Str} (k : Nat), apartS ns = true → apartS (ns.take k) = true
  | [], k, _ => by simp [apartS]
  | n :: ns, 0, _ => rfl
  | n :: ns, k + 1, h => by
    simp only [apartS, Bool.and_eq_true, List.all_eq_true] at h
    simp only [List.take_succ_cons, apartS, Bool.and_eq_true, List.all_eq_true]
    exact ⟨fun x hx => h.1 x (List.mem_of_mem_take hx), apartS_take k h.2⟩
section
variable {w : World} {base : Heap} {g₀ : Array GenState} {o₀ : OsState}
variable {K : Frag} {n : Nat} {A : Around} {s s' : Shared} {W : Wd} {H : St}
noncomputable def namesN (d : Def) : List Str := d.names.map Str.ofString
structure FnOk (K : Frag) (f : Fn) (a : Addr) (fd : FuncData) (body : List Stmt) : Prop where
  obj : ∃ o, K.lookup a = some o ∧ o.data = .func fd
  code : codeIn K fd.code fd.qualname = true
  bodyIs : fd.body = .stmts body
  flags : fd.scope.isCoroutine = false ∧ fd.scope.isGenerator = false ∧ fd.scope.kind = .function
  env : fd.globals = mainGlobals ∧ fd.builtins = builtinsNs ∧ fd.closure = []
  check : isSL (lookOf fd.scope.names) (namesN (defs f)) (defs f).body body = true
  names : apartS (namesN (defs f)) = true ∧ (defs f).params ≤ (defs f).names.length ∧ (namesN (defs f)).all (fun m => fd.scope.names.lookup m == some .local || fd.scope.names.lookup m == some .cell) = true
  bind : ((fd.scope.names.all fun x => x.2 != .cell) = true ∧ ∀ (s : Shared) (args : List Value), K.In s.heap → args.length ≤ (defs f).params → (defs f).params ≤ args.length + (defs f).dflts.length →
      ∃ dvs, (∀ (cA : Cls → Addr) h W, Reps cA h W ((defs f).dflts.drop (args.length + (defs f).dflts.length - (defs f).params)) dvs) ∧ BindsTo s fd ⟨args, []⟩ (((namesN (defs f)).take (defs f).params).zip (args ++ dvs))) ∨
    ((defs f).dflts = [] ∧ (∀ args : List Value, args.length = (defs f).params → bindArgs fd ⟨args, []⟩ = pure (((namesN (defs f)).take (defs f).params).zip args)) ∧
      ∀ L : Nat, (namesN (defs f)).all (fun m => fd.scope.names.lookup m != some .cell || ((cellsFrom L fd.scope.names []).lookup m).isSome) = true ∧ fd.scope.names.all (fun x => x.2 != .cell || (fd.scope.names.lookup x.1 == some .cell && ((cellsFrom L fd.scope.names []).lookup x.1).isSome)) = true)
noncomputable def Wd.putAll (W : Wd) (D : Addr → Prop) : Wd := by classical exact fun b => if D b then some .mach else W b
theorem Wd.putAll_in (W : Wd) {D : Addr → Prop} {b : Addr} (h : D b) : W.putAll D b = some .mach := by simp [Wd.putAll, h]
theorem Wd.putAll_out (W : Wd) {D : Addr → Prop} {b : Addr} (h : ¬ D b) : W.putAll D b = W b := by simp [Wd.putAll, h]
theorem Ext.ownedAll {P : Addr → Prop} {D : Addr → Prop} (S : StOk cA prog w base g₀ o₀ s W H) (hD : ∀ b, D b → s.heap.get? b = none) (k : ∀ b o, s.heap.get? b = some o → s'.heap.get? b = some o) : Ext P s W s' (W.putAll D) :=
  have ne : ∀ b o, s.heap.get? b = some o → ¬ D b := fun b o e q => by rw [hD b q] at e; cases e
  have nw : ∀ b, W b ≠ .none → ¬ D b := fun b h q => h (S.free (hD b q))
  ⟨fun b o hw e => ⟨k b o e, (Wd.putAll_out W (ne b o e)).trans hw⟩, fun b h => (Wd.putAll_out W (nw b (by rw [h]; exact fun q => by cases q))).trans h, fun b o _ _ e => ⟨o.slots, k b o e⟩, fun b o _ e h => ⟨o, k b o e, h⟩, fun b o hw _ e => ⟨k b o e, (Wd.putAll_out W (ne b o e)).trans hw⟩⟩
theorem StOk.ownedAll {D : Addr → Prop} (S : StOk cA prog w base g₀ o₀ s W H) (hD : ∀ b, D b → s.heap.get? b = none) (k : ∀ b o, s.heap.get? b = some o → s'.heap.get? b = some o) (hl : ∀ b, D b → ∃ o, s'.heap.get? b = some o) (hg : s'.gens = s.gens) (ho : s'.os = s.os) :
    StOk cA prog w base g₀ o₀ s' (W.putAll D) H := by
  have ne : ∀ b o, s.heap.get? b = some o → ¬ D b := fun b o e q => by rw [hD b q] at e; cases e
  refine ⟨fun b o e => k b o (S.keep b o e), fun b o e => (Wd.putAll_out W (ne b o (S.keep b o e))).trans (S.wbase b o e), fun b hw => ?_, fun t a o e => ?_, hg.trans S.gens, ho.trans S.os⟩
  · by_cases q : D b
    · exact hl b q
    · rw [Wd.putAll_out W q] at hw
      obtain ⟨o, e⟩ := S.live b hw
      exact ⟨o, k b o e⟩
  · exact (S.objs t a o e).keeps (fun b ob hw eb => ⟨k b ob eb, (Wd.putAll_out W (ne b ob eb)).trans hw⟩) fun b ob hw eb => ⟨k b ob eb, (Wd.putAll_out W (ne b ob eb)).trans hw⟩
theorem body_snd (FX : Fix K cA fA xA prog w base g₀ o₀ n) (RS : RaiseSnd cA xA prog w base g₀ o₀ n) (TS : TrySnd cA xA prog w base g₀ o₀ n) {f : Fn} {fd : FuncData} {body : List Stmt} (FO : FnOk K f (fA f) fd body) {s₁ : Shared} {vs : List V} {vals : List Value} {env : Env} {m cm : Str → Option Value}
    {Q : V → St → Prop} {X : St → Prop} {R : Result → Shared → Prop} (S : StOk cA prog w base g₀ o₀ s W H) (Si : Site A (2 * (n + 1)) s W) (rv : Reps cA s.heap W vs vals) (hl : vs.length = (defs f).params)
    (h : wpSL (callAt defs n) X Q (defs f).body (vs.map some ++ List.replicate ((defs f).names.length - (defs f).params) .none) H fun _ H => Q .none H)
    (e1 : env.scope = fd.scope) (e2 : env.globals = fd.globals) (e3 : env.builtins = fd.builtins) (e4 : env.frame = some env.locals)
    (hs : ∃ h' tk, s₁ = { s with heap := h', toks := tk }) (k : ∀ b o, s.heap.get? b = some o → s₁.heap.get? b = some o) (hL : s.heap.get? env.locals = none) (hns : s₁.heap.Ns env.locals m)
    (hcell : ∀ x, fd.scope.names.lookup x = some .cell → ∃ c v, env.cells.lookup x = some c ∧ s.heap.get? c = none ∧ c ≠ env.locals ∧ s₁.heap.IsCell c v)
    (hap : ∀ x y c, fd.scope.names.lookup x = some .cell → fd.scope.names.lookup y = some .cell → env.cells.lookup x = some c → env.cells.lookup y = some c → x = y)
    (hvar : ∀ (i : Nat) x v, (namesN (defs f))[i]? = some x → vals[i]? = some v → (fd.scope.names.lookup x = some .local → m x = some v) ∧ (fd.scope.names.lookup x = some .cell → ∃ c, env.cells.lookup x = some c ∧ s₁.heap.IsCell c (some v)))
    (hQ : ∀ y H' v s' W', Ext NP s W s' W' → StOk cA prog w base g₀ o₀ s' W' H' → Rep cA s'.heap W' y v → Q y H' → R (.ok (.ret v)) s')
    (hX : ∀ e s' W' H', Ext NP s W s' W' → StOk cA prog w base g₀ o₀ s' W' H' → Flies xA e s' W' → X H' → R (.error e) s') :
    wpAny (model prog w) (A.deeper env) (execs body env) (fun f s' => R (.ok (.ret (match f with | .ret v => v | _ => .none))) s')
      (fun e s' => wpAny (model prog w) (A.deeper env) (leaving env e) (fun _ s'' => R (.error e) s'') (fun e' s'' => R (.error e') s'') s') s₁ := by
  obtain ⟨h', tk, rfl⟩ := hs
  let look := lookOf fd.scope.names
  let D : Addr → Prop := PEnv look env
  have hD : ∀ b, D b → s.heap.get? b = none := fun b hb => by
    refine @bc _ fun k_ => ?_
    rcases hb with rfl | ⟨x, hx, hc⟩ <;> (apply k_; clear k_)
    · exact hL
    · refine @bc _ fun k_ => ?_
      refine @bc _ fun k_ => ?_
      obtain ⟨c, v, c1, c2, _⟩ := hcell x hx
      apply k_; clear k_
      apply k_; clear k_
      rw [hc] at c1; cases c1; exact c2
  have hlive : ∀ b, D b → ∃ o, h'.get? b = some o := fun b hb => by
    refine @bc _ fun k_ => ?_
    rcases hb with rfl | ⟨x, hx, hc⟩ <;> (apply k_; clear k_)
    · obtain ⟨o, _, _, e, _⟩ := hns; exact ⟨o, e⟩
    · refine @bc _ fun k_ => ?_
      obtain ⟨c, v, c1, c2, c3, o, c4, _⟩ := hcell x hx
      apply k_; clear k_
      rw [hc] at c1; cases c1; exact ⟨o, c4⟩
  have S₁ : StOk cA prog w base g₀ o₀ { s with heap := h', toks := tk } (W.putAll D) H := S.ownedAll (s' := { s with heap := h', toks := tk }) hD k hlive rfl rfl
  have x₁ : Ext NP s W { s with heap := h', toks := tk } (W.putAll D) := Ext.ownedAll (s' := { s with heap := h', toks := tk }) S hD k
  have wL : (W.putAll D) env.locals = some .mach := Wd.putAll_in W (.inl rfl)
  have nameLen : (namesN (defs f)).length = (defs f).names.length := by simp [namesN]
  have hpl := FO.names.2.1
  have F₁ : FrOk cA look (namesN (defs f)) env { s with heap := h', toks := tk } (W.putAll D) (vs.map some ++ List.replicate ((defs f).names.length - (defs f).params) .none) := by
    refine ⟨by rw [e1]; exact FO.flags.2.2, e2.trans FO.env.1, e3.trans FO.env.2.1, fun x kd hk _ => by unfold Env.kindOf; rw [e1]; exact hk, wL, fun x hx => ?_, fun x y c => hap x y c, FO.names.1, m, hns, fun i x y h1 h2 => ?_⟩
    · refine @bc _ fun k_ => ?_
      refine @bc _ fun k_ => ?_
      obtain ⟨c, v, c1, c2, c3, c4⟩ := hcell x hx
      apply k_; clear k_
      apply k_; clear k_
      exact ⟨c, v, c1, Wd.putAll_in W (.inr ⟨x, hx, c1⟩), c3, c4⟩
    · have hi : i < vs.length := by
        by_cases q : i < vs.length
        · exact q
        · rw [List.getElem?_append_right (by simp; (first | lia | omega)), List.getElem?_replicate] at h2
          split at h2 <;> cases h2
      rw [List.getElem?_append_left (by simpa using hi), List.getElem?_map] at h2
      refine @bc _ fun k_ => ?_
      obtain ⟨z, hz, hz'⟩ := Option.map_eq_some_iff.mp h2
      apply k_; clear k_
      have e_ := Option.some.inj hz'
      subst e_
      obtain ⟨v, hv, rv'⟩ := rv.get cA hz
      refine ⟨v, x₁.rep rv', ?_⟩
      obtain ⟨g1, g2⟩ := hvar i x v h1 hv
      have := List.all_eq_true.mp FO.names.2.2 x (List.mem_of_getElem? h1)
      rw [Bool.or_eq_true, beq_iff_eq, beq_iff_eq] at this
      rcases this with q | q
      · exact .inl ⟨q, g1 q⟩
      · exact .inr ⟨q, g2 q⟩
  have Si₁ : Site (A.deeper env) (2 * n + 1) { s with heap := h', toks := tk } (W.putAll D) := by
    refine @bc _ fun k_ => ?_
    obtain ⟨⟨a1, a2, a3⟩, l, hl, hall⟩ := Si.ext x₁
    apply k_; clear k_
    refine ⟨⟨a1, ?_, ?_⟩, env :: l, Around.frames_deeper hl, fun en hen => ?_⟩
    · show A.units + 3 + 100 * (2 * n + 1) + 200 < cLine
      (first | lia | omega)
    · show A.depth + 1 + 4 * (2 * n + 1) + 10 < recursionLimit
      (first | lia | omega)
    · rcases List.mem_cons.mp hen with rfl | hen
      · refine @bc _ fun k_ => ?_
        refine @bc _ fun k_ => ?_
        obtain ⟨o, es, ep, e, d, _⟩ := hns
        apply k_; clear k_
        apply k_; clear k_
        exact ⟨by rw [e1, FO.flags.2.2]; decide, en.locals, o, e4, wL, e, fun vs q => by rw [d] at q; cases q⟩
      · exact hall en hen
  have back : ∀ {s' : Shared} {W' : Wd}, Ext (PEnv look env) { s with heap := h', toks := tk } (W.putAll D) s' W' → Ext NP s W s' W' := fun e' => ((np x₁).trans e').narrow fun b hb => S.free (hD b hb)
  refine soundSL FX RS TS (defs f).body FO.check S₁ F₁ ?_ Si₁ (by obtain ⟨l₀, hl₀, _⟩ := Si.stk; exact ⟨l₀, Around.frames_deeper hl₀⟩) h (fun r' H' s' W' e' S' F' _ h' => hQ .none H' .none s' W' (back e') S' rfl h') (fun y H' v s' W' e' S' r' h' => hQ y H' v s' W' (back e') S' r' h') fun e s' W' H' e' S' fl h' => ?_
  · rw [List.length_append, List.length_map, List.length_replicate, nameLen, hl]; (first | lia | omega)
  · refine @bc _ fun k_ => ?_
    obtain ⟨l, hl, hall⟩ := Si₁.stk
    obtain ⟨l₀, hl₀, _⟩ := Si.stk
    apply k_; clear k_
    have hfr : (A.deeper env).frames = some (env :: l₀) := Around.frames_deeper hl₀
    exact leaving_snd S' (Si₁.ext e') hfr e4 fl fun s'' W'' e'' S'' fl'' => hX e s'' W'' H' (back (e'.trans (np e''))) S'' fl'' h'
theorem apart_pair {cs : List (Str × Addr)} (h : cs.Pairwise fun x y => x.2 ≠ y.2) {x y : Str} {c : Addr} (h1 : cs.lookup x = some c) (h2 : cs.lookup y = some c) : x = y := name_of_addr h (mem_of_lookup h1) (mem_of_lookup h2)
theorem call_succ (FX : Fix K cA fA xA prog w base g₀ o₀ n) (RS : RaiseSnd cA xA prog w base g₀ o₀ n) (TS : TrySnd cA xA prog w base g₀ o₀ n) (FO : ∀ f, ∃ fd body, FnOk K f (fA f) fd body) : CallSnd cA fA xA prog w base g₀ o₀ (n + 1) := by
  intro f vs H Q X s W A args R h S rv Si hQ hX
  refine @bc _ fun k_ => ?_
  obtain ⟨fd, body, FO⟩ := FO f
  obtain ⟨h1, h2⟩ := h
  obtain ⟨o, ho, hdata⟩ := FO.obj
  apply k_; clear k_
  have XK := S.k FX.KO
  refine @bc _ fun k_ => ?_
  obtain ⟨mg, mb, g1, g2, g3, g4⟩ := FX.KO.top
  apply k_; clear k_
  have hlim : s.heap.NoLimit := g3.keeps S.keep
  have hcd := codeRec_of XK FO.code
  have hroom : A.depth < recursionLimit := by have := Si.room.depth; (first | lia | omega)
  have hlen := rv.length
  have hap := apartS_take (defs f).params FO.names.1
  have getN : ∀ (i : Nat) x, i < (defs f).params → (namesN (defs f))[i]? = some x → ((namesN (defs f)).take (defs f).params)[i]? = some x := fun i x hi e => by rw [List.getElem?_take_of_lt hi]; exact e
  refine @bc _ fun k_ => ?_
  rcases FO.bind with ⟨nocell, hb⟩ | ⟨nod, hb, hcells⟩ <;> (apply k_; clear k_)
  · -- no cells
    have hal : (argsOf (defs f) vs).length = (defs f).params := h1
    have ha1 : vs.length ≤ (defs f).params := by rw [← hal]; unfold argsOf; rw [List.length_append]; (first | lia | omega)
    have ha2 : (defs f).params ≤ vs.length + (defs f).dflts.length := by rw [← hal]; unfold argsOf; rw [List.length_append, List.length_drop]; omega
    obtain ⟨dvs, hd, hbind⟩ := hb s args XK (by (first | lia | omega)) (by (first | lia | omega))
    have rv' : Reps cA s.heap W (argsOf (defs f) vs) (args ++ dvs) := by
      unfold argsOf
      refine rv.append cA ?_
      rw [hlen]
      exact hd cA _ _
    refine codeAny_call_def hroom (XK _ _ ho) hdata hlim hcd FO.bodyIs hbind (fun x hx => by have := List.all_eq_true.mp nocell x hx; simpa using this) (fun x hx => ?_) (fun h₀ hns kk => ?_) FO.flags.1 FO.flags.2.1 FO.flags.2.2
    · have hm : x.1 ∈ (namesN (defs f)).take (defs f).params := (List.of_mem_zip (show (x.1, x.2) ∈ _ from hx)).1
      have := List.all_eq_true.mp FO.names.2.2 x.1 (List.mem_of_mem_take hm)
      rw [Bool.or_eq_true, beq_iff_eq, beq_iff_eq] at this
      rcases this with q | q
      · exact q
      · have := List.all_eq_true.mp nocell _ (mem_of_lookup q)
        simp at this
    · have noc : ∀ x, fd.scope.names.lookup x ≠ some .cell := fun x q => by
        have := List.all_eq_true.mp nocell _ (mem_of_lookup q)
        simp at this
      refine body_snd FX RS TS FO (m := fun x => (((namesN (defs f)).take (defs f).params).zip (args ++ dvs)).reverse.lookup x) (cm := fun _ => none) S Si rv' hal h2 rfl rfl rfl rfl ⟨_, _, rfl⟩ kk (size_free _) hns (fun x q => absurd q (noc x)) (fun x y c q => absurd q (noc x)) (fun i x v e1 e2 => ⟨fun _ => ?_, fun q => absurd q (noc x)⟩) hQ hX
      have hi : i < (defs f).params := by
        have : i < (args ++ dvs).length := (List.getElem?_eq_some_iff.mp e2).1
        rw [← rv'.length, hal] at this
        exact this
      exact lookup_get hap (getN i x hi e1) e2
  · -- its own cells
    have hal : (argsOf (defs f) vs).length = (defs f).params := h1
    have hav : argsOf (defs f) vs = vs := by unfold argsOf; rw [nod]; simp
    rw [hav] at hal h2
    have hb' := hb args (by (first | lia | omega))
    have hc := hcells (s.heap.objs.size + 1)
    refine codeAny_call_cells hroom (XK _ _ ho) hdata hlim hcd FO.bodyIs hb' FO.env.2.2 (fun x hx => ?_) (fun s₁ IC => ?_) FO.flags.1 FO.flags.2.1 FO.flags.2.2
    · have hm : x.1 ∈ (namesN (defs f)).take (defs f).params := (List.of_mem_zip (show (x.1, x.2) ∈ _ from hx)).1
      have hm' := List.mem_of_mem_take hm
      have := List.all_eq_true.mp FO.names.2.2 x.1 hm'
      rw [Bool.or_eq_true, beq_iff_eq, beq_iff_eq] at this
      rcases this with q | q
      · exact .inl q
      · refine .inr ⟨q, ?_⟩
        have := List.all_eq_true.mp hc.1 x.1 hm'
        rw [q] at this
        simpa using this
    · refine @bc _ fun k_ => ?_
      obtain ⟨⟨hsame, hns, hkeep, hfresh⟩, hcell, hapart, habove⟩ := IC
      apply k_; clear k_
      have cellOf : ∀ x, fd.scope.names.lookup x = some .cell → ∃ c, (callEnvC fd s.heap.objs.size (fA f)).cells.lookup x = some c := fun x q => by
        have := List.all_eq_true.mp hc.2 _ (mem_of_lookup q)
        simp only [bne_self_eq_false, Bool.false_or, Bool.and_eq_true] at this
        exact Option.isSome_iff_exists.mp this.2
      refine body_snd FX RS TS FO S Si rv hal h2 rfl rfl rfl rfl hsame hkeep (size_free _) hns (fun x q => ?_) (fun x y c _ _ c1 c2 => apart_pair hapart c1 c2) (fun i x v e1 e2 => ?_) hQ hX (cm := fun _ => none)
      · obtain ⟨c, hc1⟩ := cellOf x q
        have hab := habove x c (mem_of_lookup hc1)
        refine ⟨c, _, hc1, ?_, Nat.ne_of_gt hab, hcell x c hc1⟩
        cases z : s.heap.get? c with
        | none => rfl
        | some ob =>
          exact absurd (Nat.lt_trans hab (Heap.lt_size z)) (Nat.lt_irrefl _)
      · have hi : i < (defs f).params := by
          have : i < args.length := (List.getElem?_eq_some_iff.mp e2).1
          rw [← hlen, hal] at this
          exact this
        refine ⟨fun q => bindL_get hap (getN i x hi e1) e2 q, fun q => ?_⟩
        obtain ⟨c, hc1⟩ := cellOf x q
        refine ⟨c, hc1, ?_⟩
        have hv : bindC (callEnvC fd s.heap.objs.size (fA f)).kindOf (((namesN (defs f)).take (defs f).params).zip args) (fun _ => none) x = some v :=
          bindC_get hap (getN i x hi e1) e2 (by show fd.scope.names.lookup x ≠ _; rw [q]; decide)
        have := hcell x c hc1
        rw [hv] at this
        exact this
end
end Mine
set_option backward.match.sparseCases true
namespace Mine
open PySem PySem.W PyProof.Rows PySem.SeqAt PySem.Calls Builtin Builtin.ObjectAttr
noncomputable def excMro (C : Addr) : List Value := [.ref C, .type "Exception", .type "BaseException", .type "object"]
section
variable {w : World} {A : Around} {E : Value → Shared → Prop} {s : Shared} {K : Frag} {C x : Addr} {ox : Obj} {od : Option Obj} {name : Str} {v : Value}
theorem exc_set {Q : Unit → Shared → Prop} {cd : ClassData} (X : K.In s.heap) (I : InstAt s.heap x ox C od) (hs : findIn K (.ref C) "__setattr__" = some (some (.builtin "object.__setattr__"))) (hc : clsIn K C = some cd) (hmro : cd.mro = excMro C) (ha : findIn K (.ref C) name = some none)
    (h : ∀ b, wpAny (model prog w) A.in1 (storeInOwnDict (.ref x) (.ref C) (.str name s.toks) name v b) (fun fin s' => fin = .done (.ret .none) ∧ Q () s') (fun e s' => E e s') { s with toks := s.toks + 1 }) :
    wpAny (model prog w) A (setAttr (.ref x) name v) Q E s := by
  have SF := PySem.F.store_Exception
  refine set_plain X I hs ?_
  obtain ⟨hp, g, d, tk, os⟩ := s
  have sub : Looks (model prog w) hp (isInstance (.ref x) (.type "object")) true := I.type.andThen (looks_mroIn X (by unfold mroIn; rw [hc, Option.bind_some, hmro]; rfl))
  refine codeAny_call_builtin SF.slot.plain SF.entry (@check_slot (model prog w) _ _ _ "object.__setattr__" "object" "__setattr__" (.ref x) [.str name tk, v] [] _ SF.kind SF.split sub (SF.args (.ref x) (.str name tk) v) ?_)
  have hm : Looks (model prog w) hp (mroOf (.ref C)) cd.mro := (looks_clsIn X hc).andThen .now
  simp only [osa_eq, refuse_eq]
  refine wpAny_bind (wpAny_bind (I.type.at (wpAny_bind (hm.at ?_))))
  rw [hmro]
  unfold excMro
  refine wpAny_pure (wpAny_bind (I.type.at (wpAny_bind ((looks_findIn X ha).at (wpAny_bind (wpAny_pure ?_))))))
  exact wpAny_mono (h _) (fun fin s' z => by obtain ⟨rfl, z⟩ := z; exact z) fun _ _ z => z
theorem exc_set_new {Q : Unit → Shared → Prop} {cd : ClassData} (X : K.In s.heap) (hx : s.heap.get? x = some ox) (h1 : ox.cls = .ref C) (h2 : ox.dict = none) (h3 : ∃ vs, ox.data = .fields vs) (hs : findIn K (.ref C) "__setattr__" = some (some (.builtin "object.__setattr__"))) (hc : clsIn K C = some cd) (hmro : cd.mro = excMro C) (hd : cd.hasDict = true) (ha : findIn K (.ref C) name = some none)
    (h : ∀ h' tk dx es, s.heap.get? dx = none → h'.get? x = some { ox with dict := some dx } → h'.get? dx = some (dictOf es 1) → es.length = 1 → getL name es ≠ some none → es.any (·.refKey) = false → (∀ b o, b ≠ x → s.heap.get? b = some o → h'.get? b = some o) → Q () { s with heap := h', toks := tk }) :
    wpAny (model prog w) A (setAttr (.ref x) name v) Q E s := by
  refine @bc _ fun k_ => ?_
  obtain ⟨oc, odi, oda, osl⟩ := ox
  apply k_; clear k_
  dsimp only at h1 h2 h3
  subst h1 h2
  obtain ⟨vs, rfl⟩ := h3
  refine exc_set (od := none) X ⟨hx, rfl, rfl, trivial⟩ hs hc hmro ha fun b => ?_
  obtain ⟨hp, g, d, tk, os⟩ := s
  refine wpAny_bind (wpAny_pure (wpAny_bind (wpAny_bind (wpAny_loadPart hx (wpAny_bind ((looks_clsIn X hc).at ?_))))))
  rw [hd]
  have hne : x ≠ hp.objs.size := Nat.ne_of_lt (Heap.lt_size hx)
  have hx' : (hp.push { cls := .type "dict", data := .dict #[] }).get? x = some ⟨.ref C, none, .fields vs, osl⟩ := Heap.get?_push_of_some _ hx
  refine wpAny_bind (wpAny_alloc (wpAny_bind (wpAny_update hx' ?_)))
  refine wpAny_pure ?_
  generalize hH : (hp.push { cls := .type "dict", data := .dict #[] }).update x (fun o => { cls := o.cls, dict := some hp.objs.size, data := o.data, slots := o.slots }) = H1
  have g1 : H1.get? x = some ⟨.ref C, some hp.objs.size, .fields vs, osl⟩ := by rw [← hH]; exact Heap.get?_update_self _ hx' rfl
  have g2 : H1.get? hp.objs.size = some (dictOf [] 0) := by rw [← hH]; exact (Heap.get?_update_other _ _ hne).trans (Heap.get?_push_size _ rfl)
  have g3 : ∀ b o, b ≠ x → hp.get? b = some o → H1.get? b = some o := fun b o hb e => by rw [← hH]; exact (Heap.get?_update_other _ _ (Ne.symm hb)).trans (Heap.get?_push_of_some _ e)
  refine wpAny_bind (wpAny_pure (wpAny_bind ?_))
  refine wpAny_bind (wpAny_bind (wpAny_askSetting (wpAny_pure (wpAny_bind (wpAny_mkText (wpAny_bind (wpAny_loadPart g2 ?_)))))))
  dsimp only
  rw [aRefKeyMayBeTheName_at]
  rw [if_neg (by simp)]
  refine wpAny_updatePart' g2 ?_
  have D' : (H1.update hp.objs.size (Obj.putName name (PyData.keyHash w.params name) (.str name (tk + 1)) v)).get? hp.objs.size = some (dictOf (putL name (PyData.keyHash w.params name) (.str name (tk + 1)) v []) (putN name [] 0)) := by
    rw [Heap.get?_update_self _ g2 (by rw [putName_dict]; rfl), putName_dict]
  refine wpAny_bind (wpAny_lookBehind D' (pastItsLine_dict (by simp [putL, sizeLine_eq])) ?_)
  refine wpAny_pure ⟨rfl, h _ _ hp.objs.size _ (size_free _) ((Heap.get?_update_other _ _ hne.symm).trans g1) D' rfl ?_ rfl fun b o hb e => (Heap.get?_update_other _ _ (fun q => by rw [← q] at e; have := Heap.lt_size e; exact Nat.lt_irrefl _ this)).trans (g3 b o hb e)⟩
  simp [getL, putL, isStr_str]
end
end Mine
set_option backward.match.sparseCases true
namespace Mine
open PySem PySem.W PyProof.Rows PySem.SeqAt PySem.Calls Builtin Builtin.ObjectAttr
section
variable {w : World} {A : Around} {E : Value → Shared → Prop} {s : Shared} {K : Frag} {C x : Addr} {ox : Obj} {od : Option Obj} {name : Str} {v : Value}
theorem putL_two {es : List DictEntry} {name : Str} {h : Int} {k v : Value} (hes : es.length = 1) : (putL name h k v es).length ≤ 2 := by
  cases es with
  | nil => cases hes
  | cons e es =>
    cases es with
    | nil => simp only [putL]; split <;> simp
    | cons _ _ => cases hes
theorem exc_set_old {Q : Unit → Shared → Prop} {cd : ClassData} {dx : Addr} {es : List DictEntry} (X : K.In s.heap) (hx : s.heap.get? x = some ox) (h1 : ox.cls = .ref C) (h2 : ox.dict = some dx) (h3 : ∃ vs, ox.data = .fields vs) (hdx : s.heap.get? dx = some (dictOf es 1)) (hes : es.length = 1) (hk : es.any (·.refKey) = false) (hs : findIn K (.ref C) "__setattr__" = some (some (.builtin "object.__setattr__"))) (hc : clsIn K C = some cd) (hmro : cd.mro = excMro C) (hd : cd.hasDict = true) (ha : findIn K (.ref C) name = some none)
    (h : ∀ h' tk, (∀ b o, b ≠ dx → s.heap.get? b = some o → h'.get? b = some o) → (∃ o, h'.get? dx = some o) → Q () { s with heap := h', toks := tk }) :
    wpAny (model prog w) A (setAttr (.ref x) name v) Q E s := by
  refine @bc _ fun k_ => ?_
  obtain ⟨oc, odi, oda, osl⟩ := ox
  apply k_; clear k_
  dsimp only at h1 h2 h3
  subst h1 h2
  obtain ⟨vs, rfl⟩ := h3
  refine exc_set (od := some (dictOf es 1)) X ⟨hx, rfl, rfl, hdx⟩ hs hc hmro ha fun b => ?_
  obtain ⟨hp, g, d, tk, os⟩ := s
  refine wpAny_bind (wpAny_pure (wpAny_bind (wpAny_bind (wpAny_loadPart hx (wpAny_bind ((looks_clsIn X hc).at ?_))))))
  rw [hd]
  refine wpAny_pure (a := some dx) (wpAny_bind (wpAny_pure (wpAny_bind ?_)))
  refine wpAny_bind (wpAny_bind (wpAny_askSetting (wpAny_pure (wpAny_bind (wpAny_mkText (wpAny_bind (wpAny_loadPart hdx ?_)))))))
  dsimp only
  rw [aRefKeyMayBeTheName_at, if_neg (by rw [← Array.any_toList, ← Array.any_toList, hk]; simp)]
  refine wpAny_updatePart' hdx ?_
  have D' : (hp.update dx (Obj.putName name (PyData.keyHash w.params name) (.str name (tk + 1)) v)).get? dx = some (dictOf (putL name (PyData.keyHash w.params name) (.str name (tk + 1)) v es) (putN name es 1)) := by
    rw [Heap.get?_update_self _ hdx (by rw [putName_dict]; rfl), putName_dict]
  have hl := putL_two hes (name := name) (h := PyData.keyHash w.params name) (k := .str name (tk + 1)) (v := v)
  refine wpAny_bind (wpAny_lookBehind D' (pastItsLine_dict (by rw [List.size_toArray, sizeLine_eq]; (first | lia | omega))) ?_)
  exact wpAny_pure ⟨rfl, h _ _ (fun b o hb e => (Heap.get?_update_other _ _ (Ne.symm hb)).trans e) ⟨_, D'⟩⟩
end
def IsSelfAsg (x : Stmt) (t : Str × Str × Str) : Prop := ∃ p1 p2 p3 p4, x = .Assign [.Attribute (.Name t.1 p1) t.2.1 p2] (.Name t.2.2 p3) p4
theorem selfAsg_of {x : Stmt} {t v o : Expr} {a n b : Str} {p1 p2 p3 : Pos} (h : ∃ p, x = .Assign [t] v p) (ht : t = .Attribute o n p2) (ho : o = .Name a p1) (hv : v = .Name b p3) : IsSelfAsg x (a, n, b) := by
  obtain ⟨p, h⟩ := h
  exact ⟨p1, p2, p3, p, by rw [h, ht, ho, hv]⟩
noncomputable def asSelfAsg (x : Stmt) : Option {t : Str × Str × Str // IsSelfAsg x t} :=
  (asAsg x).bind fun t => (asAttr_ t.1.1).bind fun a => (asName_ a.1.1).bind fun n => (asName_ t.1.2).map fun b => ⟨(n.1.1, a.1.2.1, b.1.1), selfAsg_of t.2 a.2 n.2 b.2⟩
def IsInit (l : List Stmt) (t : Str × Str × Str × Str × Str × Str) : Prop := ∃ x y, l = [x, y] ∧ IsSelfAsg x (t.1, t.2.1, t.2.2.1) ∧ IsSelfAsg y (t.2.2.2.1, t.2.2.2.2.1, t.2.2.2.2.2)
noncomputable def initOf (l : List Stmt) : Option (Str × Str × Str × Str × Str × Str) :=
  ((two l).bind fun t => (asSelfAsg t.1.1).bind fun a => (asSelfAsg t.1.2).map fun b => (⟨(a.1.1, a.1.2.1, a.1.2.2, b.1.1, b.1.2.1, b.1.2.2), t.1.1, t.1.2, t.2, a.2, b.2⟩ : {t // IsInit l t})).map (·.1)
theorem initOf_eq {l a n b c m d} (h : initOf l = some (a, n, b, c, m, d)) : ∃ p1 p2 p3 p4 q1 q2 q3 q4, l = [.Assign [.Attribute (.Name a p1) n p2] (.Name b p3) p4, .Assign [.Attribute (.Name c q1) m q2] (.Name d q3) q4] := by
  refine @bc _ fun k_ => ?_
  obtain ⟨x, y, h, ⟨p1, p2, p3, p4, h1⟩, q1, q2, q3, q4, h2⟩ := map_val h
  apply k_; clear k_
  exact ⟨p1, p2, p3, p4, q1, q2, q3, q4, by rw [h, h1, h2]⟩
abbrev nSelf : Str := "self"
abbrev nSym : Str := "symbol"
abbrev nData : Str := "data"
structure ExcOk (K : Frag) (base : Heap) (xA iA : Addr) : Prop where
  obj : ∃ nm q N sn sub ab col dd k0 k1 k2 k3 k5 mN, K.lookup xA = some (excClassObj nm q xA N [.type "Exception"] [.type "Exception", .type "BaseException", .type "object"] true sn sub ab col dd k0 k1 k2 k3 k5 "Exception.__new__") ∧ base.Ns N mN ∧ mN "__init__" = some (.ref iA)
  gname : nsIn K mainGlobals (Str.ofString "LispSignal") = some (some (.ref xA))
  keep : keepIn K (.ref xA) = true
  setA : findIn K (.ref xA) "__setattr__" = some (some (.builtin "object.__setattr__"))
  fld : findIn K (.ref xA) nSym = some none ∧ findIn K (.ref xA) nData = some none
  fn : ∃ o fd body, K.lookup iA = some o ∧ o.cls = .type "function" ∧ o.data = .func fd ∧ codeIn K fd.code fd.qualname = true ∧ fd.body = .stmts body ∧ fd.scope.isCoroutine = false ∧ fd.scope.isGenerator = false ∧ fd.scope.kind = .function ∧
    initOf body = some (nSelf, nSym, nSym, nSelf, nData, nData) ∧ (∀ x ∈ fd.scope.names, x.2 ≠ .cell) ∧ fd.scope.names.lookup nSelf = some .local ∧ fd.scope.names.lookup nSym = some .local ∧ fd.scope.names.lookup nData = some .local ∧
    ∀ a b c, bindArgs fd ⟨[a, b, c], []⟩ = pure [(nSelf, a), (nSym, b), (nData, c)]
section
variable {w : World} {A : Around} {K : Frag} {base : Heap}
theorem ExcOk.cls (O : ExcOk K base xA iA) : ∃ cd, clsIn K xA = some cd ∧ cd.mro = excMro xA ∧ cd.hasDict = true := by
  refine @bc _ fun k_ => ?_
  obtain ⟨nm, q, N, sn, sub, ab, col, dd, k0, k1, k2, k3, k5, mN, h, _⟩ := O.obj
  apply k_; clear k_
  exact ⟨_, by unfold clsIn; rw [h], rfl, rfl⟩
theorem setAsg {t : Str} {M : Model} {fd : FuncData} {L fa : Addr} {n b : Str} {p1 p2 p3 p4 : Pos} {A : Around} {E : Value → Shared → Prop} {s : Shared} {Q : Flow → Shared → Prop} {m : Str → Option Value} {x : Addr} {v : Value} (hk : fd.scope.kind = .function) (hn : s.heap.Ns L m) (h1 : fd.scope.names.lookup t = some .local) (h2 : fd.scope.names.lookup b = some .local) (d1 : (t == ("__debug__" : Str)) = false) (d2 : (b == ("__debug__" : Str)) = false) (g1 : m t = some (.ref x)) (g2 : m b = some v)
    (h : wpAny M A (setAttr (.ref x) n v) (fun _ => Q .next) E s) : wpAny M A (exec (.Assign [.Attribute (.Name t p1) n p2] (.Name b p3) p4) (callEnv fd L fa)) Q E s := by
  refine assign_oneA rfl ?_
  refine ldc hk (by exact h2) hn g2 ?_ d2
  exact assign_attr (ldc hk (by exact h1) hn g1 h d1)
theorem exc_init (O : ExcOk K base xA iA) {s : Shared} {E : Value → Shared → Prop} {Q : Value → Shared → Prop} {a b : Value} {e : Addr} {oe : Obj} (X : K.In s.heap) (hlim : s.heap.NoLimit) (hroom : A.depth < recursionLimit) (he : s.heap.get? e = some oe) (h1 : oe.cls = .ref xA) (h2 : oe.dict = none) (h3 : ∃ vs, oe.data = .fields vs) (hK : ∀ b o, K.lookup b = some o → b ≠ e)
    (h : ∀ h' tk dx, (∀ b o, b ≠ e → s.heap.get? b = some o → h'.get? b = some o) → h'.get? e = some { oe with dict := some dx } → Q .none { s with heap := h', toks := tk }) :
    wpAny (model prog w) A (call (.ref iA) [.ref e, a, b]) Q E s := by
  refine @bc _ fun k_ => ?_
  obtain ⟨o, fd, body, f1, f2, f3, f4, f5, f6, f7, f8, f9, f10, f11, f12, f13, f14⟩ := O.fn
  obtain ⟨cd, c1, c2, c3⟩ := O.cls
  obtain ⟨p1, p2, p3, p4, q1, q2, q3, q4, e0_⟩ := initOf_eq f9
  apply k_; clear k_
  subst e0_
  refine wpAny_call (codeAny_call_def hroom (X _ _ f1) f3 hlim (codeRec_of X f4) f5 (.of_eq (f14 _ _ _)) f10 (fun x hx => ?_) (fun h₀ hns kk => ?_) f6 f7 f8)
  · simp only [List.mem_cons, List.not_mem_nil, or_false] at hx
    rcases hx with rfl | rfl | rfl <;> assumption
  · have X₀ : K.In h₀ := fun _ _ q => kk _ _ (X _ _ q)
    have hne : ∀ b o, s.heap.get? b = some o → b ≠ s.heap.objs.size := fun b o q => Nat.ne_of_lt (Heap.lt_size q)
    refine wpAny_execs_cons (setAsg f8 hns f11 f12 (by decide) (by decide) rfl rfl (exc_set_new (v := a) X₀ (kk _ _ he) h1 h2 h3 O.setA c1 c2 c3 O.fld.1 fun h' tk dx es e1 e2 e3 e4 e5 e6 e7 => ?_))
    have ne0 : e ≠ s.heap.objs.size := hne _ _ he
    have X₁ : K.In h' := fun b o q => e7 b o (hK b o q) (X₀ _ _ q)
    refine wpAny_execs_cons (setAsg f8 (hns.at fun o q => e7 _ o (Ne.symm ne0) q) f11 f13 (by decide) (by decide) rfl rfl (exc_set_old (v := b) X₁ e2 h1 rfl h3 e3 e4 e6 O.setA c1 c2 c3 O.fld.2 fun h'' tk' k1 k2 => wpAny_execs_nil ?_))
    have hd : ∀ b o, h₀.get? b = some o → b ≠ dx := fun b o q z => by subst z; rw [show h₀.get? b = none from e1] at q; cases q
    have hde : e ≠ dx := hd _ _ (kk _ _ he)
    exact h h'' tk' dx (fun b o hb q => k1 b o (hd _ _ (kk _ _ q)) (e7 b o hb (kk _ _ q))) (k1 e _ hde e2)
end
end Mine
set_option backward.match.sparseCases true
namespace Mine
open PySem PySem.W PyProof.Rows PySem.SeqAt PySem.Calls
section
variable {w : World} {A : Around} {E : Value → Shared → Prop} {s : Shared} {K : Frag} {base : Heap}
theorem exc_call (O : ExcOk K base xA iA) {Q : Value → Shared → Prop} {a b : Value} (KI : K.In base) (hb : base.StaysIn s.heap) (hlim : s.heap.NoLimit) (hroom : A.depth + 2 < recursionLimit)
    (h : ∀ h' tk e oe t, s.heap.get? e = none → (∀ b o, s.heap.get? b = some o → h'.get? b = some o) → h'.get? e = some oe → oe.cls = .ref xA → oe.data = .fields #[.ref t, .none, .none, .none, .bool false, .none] → Q (.ref e) { s with heap := h', toks := tk }) :
    wpAny (model prog w) A (call (.ref xA) [a, b]) Q E s := by
  refine @bc _ fun k_ => ?_
  obtain ⟨nm, q, N, sn, sub, ab, col, dd, k0, k1, k2, k3, k5, mN, e1, e2, e3⟩ := O.obj
  obtain ⟨o, fd, body, f1, f2, _⟩ := O.fn
  apply k_; clear k_
  have X : K.In s.heap := fun _ _ q => hb _ _ (KI _ _ q)
  obtain ⟨hp, g, d, tk, os⟩ := s
  refine wpAny_call_exc_init PySem.F.excBase_Exception (X _ _ e1) (e2.keeps hb) e3 (X _ _ f1) f2 fun h' e hm => ?_
  refine @bc _ fun k_ => ?_
  obtain ⟨m1, m2, t, m3, m4, m5⟩ := hm
  apply k_; clear k_
  have X' : K.In h' := fun _ _ q => m1 _ _ (X _ _ q)
  refine exc_init O X' (hlim.keeps m1) ?_ m3 rfl rfl ⟨_, rfl⟩ (fun b o q z => by subst z; have := X _ _ q; rw [show hp.get? b = none from m2] at this; cases this) fun h'' tk' dx k1 k2 => ?_
  · have hw : (Code.builtin "type.__call__" ⟨[.ref xA, a, b], []⟩).weight ≤ 1 := Nat.le_of_ble_eq_true rfl
    have : (A.under (.builtin "type.__call__" ⟨[.ref xA, a, b], []⟩)).depth ≤ A.depth + 1 := Nat.add_le_add_left hw _
    (first | lia | omega)
  · refine ⟨rfl, h h'' tk' e _ t m2 (fun b o q => k1 b o (fun z => by subst z; rw [show hp.get? b = none from m2] at q; cases q) (m1 b o q)) k2 rfl rfl⟩
theorem raise_inst {x : Expr} {env : Env} {pos : Pos} {Q : Flow → Shared → Prop} (O : ExcOk K base xA iA) (hh : A.handled = none)
    (h : wpAny (model prog w) A (eval x env) (fun v s₁ => ∃ e oe vs, v = .ref e ∧ K.In s₁.heap ∧ s₁.heap.get? e = some oe ∧ oe.cls = .ref xA ∧ oe.data = .fields vs ∧ vs[1]? = some .none ∧ E (.ref e) s₁) E s) :
    wpAny (model prog w) A (exec (.Raise (some x) none pos) env) Q E s := by
  show wpAny _ A (do standAt pos; raiseStmt env (some (do let v ← eval x env; standAt pos; pure v)) none) Q E s
  refine wpAny_bind (wpAny_standAt ?_)
  refine wpAny_bind (wpAny_bind (wpAny_mono h (fun v s₁ h₁ => wpAny_bind (wpAny_standAt (wpAny_pure ?_))) fun _ _ x => x))
  refine @bc _ fun k_ => ?_
  obtain ⟨e, oe, vs, e0_, X, he, hc, hd, h1, hE⟩ := h₁
  apply k_; clear k_
  subst e0_
  refine @bc _ fun k_ => ?_
  obtain ⟨cd, c1, c2, c3⟩ := O.cls
  obtain ⟨nm, q, N, sn, sub, ab, col, dd, k0, k1, k2, k3, k5, mN, e1, e2, e3⟩ := O.obj
  apply k_; clear k_
  have T : Looks (model prog w) s₁.heap (typeOf (.ref e)) (.ref xA) := hc ▸ (Looks.ld he).andThen .now
  have T2 : Looks (model prog w) s₁.heap (typeOf (.ref xA)) (.type "type") := (Looks.ld (X _ _ e1)).andThen .now
  have IB : Looks (model prog w) s₁.heap (isInstance (.ref e) (.type "BaseException")) true := T.andThen (looks_mroIn X (by unfold mroIn; rw [c1, Option.bind_some, c2]; rfl))
  have hnt : ∀ {Q' : Bool → Shared → Prop}, Q' false s₁ → wpAny (model prog w) A (isType (.ref e)) Q' E s₁ := by
    intro Q' hq
    simp only [isType, loadHead]
    refine wpAny_bind (wpAny_loadPart he ?_)
    rw [hd]; exact wpAny_pure hq
  refine wpAny_bind (wpAny_pure ?_)
  dsimp only
  refine wpAny_bind (wpAny_holding ?_)
  refine wpAny_bind (wpAny_bind (hnt ?_))
  refine wpAny_pure ?_
  refine wpAny_bind (IB.at ?_)
  refine wpAny_pure ?_
  refine wpAny_bind (hnt ?_)
  refine wpAny_bind (wpAny_bind (T.at (wpAny_bind (T2.at ?_))))
  refine wpAny_pure ?_
  refine wpAny_bind (wpAny_bind (wpAny_field he hd h1 ?_))
  refine wpAny_pure (wpAny_bind (wpAny_handled ?_))
  rw [hh]
  first
    | exact wpAny_throw hE
    | exact wpAny_bind (wpAny_pure (wpAny_throw hE))
end
section
variable {w : World} {base : Heap} {g₀ : Array GenState} {o₀ : OsState}
variable {K : Frag} {n : Nat}
theorem raiseSnd (FX : Fix K cA fA xA prog w base g₀ o₀ n) (O : ExcOk K base xA iA) : RaiseSnd cA xA prog w base g₀ o₀ n := by
  intro es x look N ck
  refine @bc _ fun k_ => ?_
  obtain ⟨v, ⟨pos, e0_⟩, cx⟩ := chk_ok ck
  apply k_; clear k_
  subst e0_
  refine @bc _ fun k_ => ?_
  obtain ⟨⟨nm, as⟩, ⟨p, p', e0_⟩, cy⟩ := chk_ok cx
  apply k_; clear k_ cx ck
  subst e0_
  refine @bc _ fun k_ => ?_
  obtain ⟨c1, cy⟩ := and_ok cy
  obtain ⟨c2, c3⟩ := and_ok cy
  obtain ⟨e0_, hl, hd⟩ := isGl_eq c1
  apply k_; clear k_
  subst e0_
  intro env s W H r A X Rt Nx Qm Em S F hr Si fr h qn qr qx
  refine @bc _ fun k_ => ?_
  obtain ⟨mg, mb, g1, g2, g3, g4⟩ := FX.KO.top
  apply k_; clear k_
  refine raise_inst O Si.room.handled ?_
  refine wpAny_Call_Name_kw (ld_glob FX.KO S F hl hd O.gname ?_)
  refine cw_of K.In (isEs_star c2) (keeps_K O.keep) ?_
  obtain ⟨ea, eb, rfl⟩ := some_ok c3
  refine sEs_two (soundE FX ea) (soundE FX eb) c2 S F Si (show wpEs (callAt defs n) X r (.cons ea (.cons eb .nil)) H (fun _ H => X H) from h) (fun y₁ y₂ H₁ a b s₁ W₁ e₁ S₁ h₁ => ⟨S₁.k FX.KO, ?_⟩) (fun a b c d e => qx a b c d (np e))
  refine exc_call O FX.KO.inK S₁.keep (g3.keeps S₁.keep) (by have := Si.room.depth; (first | lia | omega)) fun h' tk e oe t e1 e2 e3 e4 e5 => ?_
  refine ⟨e, oe, _, rfl, fun _ _ q => e2 _ _ (S₁.k FX.KO _ _ q), e3, e4, e5, rfl, ?_⟩
  have hW := S₁.free e1
  exact qx _ _ (W₁.put e .exc) H₁ (np (e₁.trans (Ext.owned e1 hW e2))) (S₁.owned e1 e2 ⟨_, e3⟩) ⟨e, oe, _, rfl, Wd.put_self .., e3, e4, e5, .inl rfl⟩ h₁
end
end Mine
set_option backward.match.sparseCases true
namespace Mine
open PySem PySem.W PyProof.Rows PySem.SeqAt PySem.Calls
section
variable {w : World} {base : Heap} {g₀ : Array GenState} {o₀ : OsState}
variable {K : Frag} {n : Nat}
theorem flight_snd {A : Around} {s : Shared} {W : Wd} {H : St} {e : Value} {E : Value → Shared → Prop} {Q : Unit → Shared → Prop} (S : StOk cA prog w base g₀ o₀ s W H) (fl : Flies xA e s W)
    (h : ∀ s', Ext NP s W s' W → StOk cA prog w base g₀ o₀ s' W H → Q () s') : wpAny (model prog w) A (setFlight e none) Q E s := by
  refine @bc _ fun k_ => ?_
  obtain ⟨a, oe, vs, e0_, wa, g1, g2, g3, g4⟩ := fl
  apply k_; clear k_
  subst e0_
  refine @bc _ fun k_ => ?_
  rcases g4 with g4 | ⟨T, oT, ts, t1, t2, t3, t4, t5, t6⟩ <;> (apply k_; clear k_)
  · refine wpAny_bind (wpAny_field g1 g3 g4 ?_)
    exact wpAny_pure (h s (Ext.refl ..) S)
  · refine wpAny_bind (wpAny_field g1 g3 t1 ?_)
    refine wpAny_setField t4 t5 (Array.getElem?_eq_some_iff.mp t6).1 ?_
    have k : ∀ b o, b ≠ T → s.heap.get? b = some o → (s.heap.update T (Obj.mapFields (·.setIfInBounds 3 ((none : Option Addr).elim Value.none fun f => rawInt f)))).get? b = some o := fun b o hb q => (Heap.get?_update_other _ _ (Ne.symm hb)).trans q
    have hT : ∃ o, (s.heap.update T (Obj.mapFields (·.setIfInBounds 3 ((none : Option Addr).elim Value.none fun f => rawInt f)))).get? T = some o := ⟨_, Heap.get?_update_self _ t4 (Obj.isFreed_of_fields (Obj.data_mapFields t5 _))⟩
    have ne : ∀ b, W b ≠ some .exc → b ≠ T := fun b q z => q (z ▸ t3)
    have nn : ∀ b, W b = .none → b ≠ T := fun b q => ne b (by rw [q]; exact fun z => by cases z)
    refine h _ ⟨fun b o hw q => ⟨k b o (nn b hw) q, hw⟩, fun _ q => q, fun b o hw _ q => ⟨o.slots, k b o (ne b (by rw [hw]; exact fun z => by cases z)) q⟩, fun b o hw q z => ⟨o, k b o (ne b (by rw [hw]; exact fun z => by cases z)) q, z⟩, fun b o hw _ q => ⟨k b o (ne b (by rw [hw]; exact fun z => by cases z)) q, hw⟩⟩ ⟨fun b o q => k b o (nn b (S.wbase b o q)) (S.keep b o q), S.wbase, fun b hw => ?_, fun t b o q => (S.objs t b o q).keeps (fun b o hw q => ⟨k b o (nn b hw) q, hw⟩) fun b o hw q => ⟨k b o (ne b (by rw [hw]; exact fun z => by cases z)) q, hw⟩, S.gens, S.os⟩
    by_cases q : b = T
    · subst q; exact hT
    · obtain ⟨o, z⟩ := S.live b hw
      exact ⟨o, k b o q z⟩
theorem trySnd (FX : Fix K cA fA xA prog w base g₀ o₀ n) (O : ExcOk K base xA iA) : TrySnd cA xA prog w base g₀ o₀ n := by
  intro e i x look N ck
  refine @bc _ fun k_ => ?_
  obtain ⟨⟨v, m, u⟩, ⟨p1, p2, p3, p4, p, e0_⟩, cx⟩ := chk_ok ck
  apply k_; clear k_
  subst e0_
  refine @bc _ fun k_ => ?_
  obtain ⟨c1, cx⟩ := and_ok cx
  obtain ⟨c2, cx⟩ := and_ok cx
  obtain ⟨c3, c4⟩ := and_ok cx
  obtain ⟨nm, ⟨p5, hu⟩, c5⟩ := chk_ok c4
  apply k_; clear k_ cx ck
  have hu : u = .Name nm p5 := hu
  subst hu
  refine @bc _ fun k_ => ?_
  obtain ⟨g1, g2, g3⟩ := isVar_eq c5
  obtain ⟨hm, hl, hd⟩ := isGl_eq c3
  apply k_; clear k_
  have hm : m = Str.ofString "LispSignal" := hm
  subst hm
  intro env s W H r A X Rt Nx Qm Em S F hr Si fr h qn qr qx
  obtain ⟨outer, hfr⟩ := fr
  obtain ⟨L, o, hf, hL, hoL, hnL⟩ : ∃ L o, env.frame = some L ∧ W L = some .mach ∧ s.heap.get? L = some o ∧ ∀ vs, o.data ≠ .fields vs := by
    refine @bc _ fun k_ => ?_
    obtain ⟨_, l, hl, hall⟩ := Si
    apply k_; clear k_
    rw [hfr] at hl; cases hl
    exact (hall env (by simp)).2
  refine wpAny_bind (wpAny_standAt ?_)
  simp only [List.isEmpty_nil, if_true, List.isEmpty_cons, Bool.false_and, Bool.false_eq_true, if_false]
  refine wpAny_bind (wpAny_attempt (wpAny_execs_cons (wpAny_Expr_any (soundE FX e c2 S F Si h (fun y₁ H₁ v₁ s₁ W₁ e₁ S₁ r₁ h₁ => wpAny_execs_nil (wpAny_execs_nil (qn _ _ _ _ (np e₁) S₁ (F.ext0 e₁) hr h₁))) fun ev s₁ W₁ H₁ e₁ S₁ fl h₁ => ?_) (not_inter F.kind) (swaps_no c1))))
  obtain ⟨xv, hxv, h₁⟩ := optB h₁
  have hri : r[i]? = some (some xv) := join_is hxv
  have key : wpAny (model prog w) A (leaving env ev >>= fun _ => handleBy ev env [.ExceptHandler (some (.Name (Str.ofString "LispSignal") p2)) none [.Return (some (.Name nm p5)) p3] p4]) Qm Em s₁ := by
    refine wpAny_bind (leaving_snd S₁ (Si.ext e₁) hfr hf fl fun s₂ W₂ e₂ S₂ fl₂ => ?_)
    refine @bc _ fun k_ => ?_
    obtain ⟨a, oe, vs, e0_, wa, k1, k2, k3, k4⟩ := id fl₂
    apply k_; clear k_
    subst e0_
    have e12 := e₁.trans e₂
    refine wpAny_handleBy_cons (codeAny_handlers_test ?_) (by intro q; cases q)
    refine ld_glob FX.KO S₂ (F.ext0 e12) hl hd O.gname ?_
    refine @bc _ fun k_ => ?_
    obtain ⟨nm', q', N', sn, sub, ab, col, dd, k0, k1', k2', k3', k5, mN, b1, b2, b3⟩ := O.obj
    obtain ⟨hp, gn, d, tk, os⟩ := s₂
    apply k_; clear k_
    refine wpAny_excMatches_sub_self (S₂.k FX.KO _ _ b1) k1 k2 rfl ?_
    refine codeAny_handlers_suite ?_
    refine flight_snd S₂ fl₂ fun s₃ e₃ S₃ => ?_
    have e13 := e12.trans e₃
    refine wpAny_execs_cons (wpAny_Return_some (ld_var (F.ext0 e13) g1 hri g3 fun v' rv => ?_))
    · exact qr _ _ _ _ _ (np e13) S₃ rv h₁
  simp only [leaving, bind_assoc] at key
  exact key
end
end Mine
set_option backward.match.sparseCases true
namespace Mine
open PySem PySem.W PyProof.Rows PySem.SeqAt PySem.Calls
section
variable {w : World} {base : Heap} {g₀ : Array GenState} {o₀ : OsState}
variable {K : Frag}
theorem calls_all (KO : KOk K cA fA base) (O : ExcOk K base xA iA) (FO : ∀ f, ∃ fd body, FnOk K f (fA f) fd body) : ∀ n, CallSnd cA fA xA prog w base g₀ o₀ n
  | 0 => fun _ _ _ _ _ _ _ _ _ _ h => h.elim
  | n + 1 => have FX : Fix K cA fA xA prog w base g₀ o₀ n := ⟨KO, calls_all KO O FO n⟩
    call_succ FX (raiseSnd FX O) (trySnd FX O) FO
end
noncomputable def fdOf (K : Frag) (a : Addr) : FuncData := match K.lookup a with | some o => (match o.data with | .func fd => fd | _ => default) | none => default
noncomputable def bodyOf (fd : FuncData) : List Stmt := match fd.body with | .stmts b => b | _ => []
noncomputable def isFd (K : Frag) (a : Addr) : Bool := match K.lookup a with | some o => (match o.data with | .func fd => (match fd.body with | .stmts _ => true | _ => false) | _ => false) | none => false
theorem isFd_obj {K : Frag} {a : Addr} (h : isFd K a = true) : (∃ o, K.lookup a = some o ∧ o.data = .func (fdOf K a)) ∧ (fdOf K a).body = .stmts (bodyOf (fdOf K a)) := by
  unfold isFd at h
  refine @bc _ fun k_ => ?_
  split at h <;> (apply k_; clear k_)
  · rename_i o ho
    refine @bc _ fun k_ => ?_
    split at h <;> (apply k_; clear k_)
    · rename_i fd hd
      refine @bc _ fun k_ => ?_
      split at h <;> (apply k_; clear k_)
      · rename_i b hb
        have e : fdOf K a = fd := by unfold fdOf; rw [ho]; dsimp only; rw [hd]
        rw [e]
        exact ⟨⟨o, ho, hd⟩, by unfold bodyOf; rw [hb]⟩
      · exfalso
        cases h
    · cases h
  · exfalso
    cases h
noncomputable def fnChk (K : Frag) (f : Fn) (a : Addr) : Bool :=
  isFd K a && codeIn K (fdOf K a).code (fdOf K a).qualname && (!(fdOf K a).scope.isCoroutine && !(fdOf K a).scope.isGenerator && (match (fdOf K a).scope.kind with | .function => true | _ => false)) &&
  ((fdOf K a).globals == mainGlobals && (fdOf K a).builtins == builtinsNs && (fdOf K a).closure.isEmpty) &&
  isSL (lookOf (fdOf K a).scope.names) (namesN (defs f)) (defs f).body (bodyOf (fdOf K a)) &&
  (apartS (namesN (defs f)) && decide ((defs f).params ≤ (defs f).names.length) && (namesN (defs f)).all (fun m => (fdOf K a).scope.names.lookup m == some .local || (fdOf K a).scope.names.lookup m == some .cell))
noncomputable def BindA (K : Frag) (f : Fn) (a : Addr) : Prop := ((fdOf K a).scope.names.all fun x => x.2 != .cell) = true ∧ ∀ (args : List Value), args.length ≤ (defs f).params → (defs f).params ≤ args.length + (defs f).dflts.length →
  ∃ dvs, (∀ (cA : Cls → Addr) h W, Reps cA h W ((defs f).dflts.drop (args.length + (defs f).dflts.length - (defs f).params)) dvs) ∧ ∀ S, peek K S (bindArgs (fdOf K a) ⟨args, []⟩) = some (((namesN (defs f)).take (defs f).params).zip (args ++ dvs))
noncomputable def BindC (K : Frag) (f : Fn) (a : Addr) : Prop := (defs f).dflts = [] ∧ (∀ args : List Value, args.length = (defs f).params → bindArgs (fdOf K a) ⟨args, []⟩ = pure (((namesN (defs f)).take (defs f).params).zip args)) ∧
  ∀ L : Nat, (namesN (defs f)).all (fun m => (fdOf K a).scope.names.lookup m != some .cell || ((cellsFrom L (fdOf K a).scope.names []).lookup m).isSome) = true ∧ (fdOf K a).scope.names.all (fun x => x.2 != .cell || ((fdOf K a).scope.names.lookup x.1 == some .cell && ((cellsFrom L (fdOf K a).scope.names []).lookup x.1).isSome)) = true
theorem fnOk_of {K : Frag} {f : Fn} {a : Addr} (h : fnChk K f a = true) (hb : BindA K f a ∨ BindC K f a) : FnOk K f a (fdOf K a) (bodyOf (fdOf K a)) := by
  unfold fnChk at h
  simp only [Bool.and_eq_true, Bool.not_eq_true', decide_eq_true_eq, beq_iff_eq] at h
  refine @bc _ fun k_ => ?_
  obtain ⟨⟨⟨⟨⟨h1, h2⟩, ⟨h3, h4⟩, h5⟩, ⟨h6, h7⟩, h8⟩, h9⟩, ⟨h10, h11⟩, h12⟩ := h
  obtain ⟨p1, p2⟩ := isFd_obj h1
  apply k_; clear k_
  refine ⟨p1, h2, p2, ⟨h3, h4, ?_⟩, ⟨h6, h7, List.isEmpty_iff.mp h8⟩, h9, ⟨h10, h11, h12⟩, ?_⟩
  · refine @bc _ fun k_ => ?_
    split at h5 <;> (apply k_; clear k_)
    · assumption
    · exfalso
      cases h5
  · rcases hb with ⟨b1, b2⟩ | hb
    · refine .inl ⟨b1, fun s args X l1 l2 => ?_⟩
      obtain ⟨dvs, d1, d2⟩ := b2 args l1 l2
      exact ⟨dvs, d1, kp_binds X d2⟩
    · exact .inr hb
theorem bindNo {K : Frag} {f : Fn} {a : Addr} (hc : ((fdOf K a).scope.names.all fun x => x.2 != .cell) = true) (hd : (defs f).dflts = []) (h : ∀ args : List Value, args.length = (defs f).params → ∀ S, peek K S (bindArgs (fdOf K a) ⟨args, []⟩) = some (((namesN (defs f)).take (defs f).params).zip args)) : BindA K f a := by
  refine ⟨hc, fun args h1 h2 => ⟨[], fun _ _ _ => ?_, fun S => ?_⟩⟩
  · rw [hd]; simp [Reps]
  · rw [hd] at h2
    rw [List.append_nil]
    exact h args (Nat.le_antisymm h1 h2) S
end Mine
set_option backward.match.sparseCases true
namespace Mine
open PySem PySem.W PyProof.Rows PySem.SeqAt PySem.Calls
section
variable {w : World} {g₀ : Array GenState} {o₀ : OsState}
variable {K : Frag} {n : Nat}
theorem law_entry {s₀ : Shared} {h₁ : Heap} {tk : Nat} {A : Around} {Qm : Flow → Shared → Prop} {Em : Value → Shared → Prop} {f : Fn} {fd : FuncData} {body : List Stmt} {nm : Str} {L fa : Addr} {cd : Value} {m : Str → Option Value} {x : V} {v : Value} {p0 : Str} {Q : V → St → Prop}
    (FX : Fix K cA fA xA prog w s₀.heap s₀.gens s₀.os n) (O : ExcOk K s₀.heap xA iA) (FO : FnOk K f (fA f) fd body) (hp : (defs f).params = 1) (hN : (namesN (defs f))[0]? = some p0) (hloc : fd.scope.names.lookup p0 = some .local) (nocell : (fd.scope.names.all fun x => x.2 != .cell) = true)
    (F : Fr s₀.heap L h₁ m) (hm : m p0 = some v) (rv : Rep cA s₀.heap (fun _ => Option.none) x v) (hA : A.handled = .none) (hu : A.units + 3 + 100 * (2 * n + 1) + 200 < cLine) (hd : A.depth + 1 + 4 * (2 * n + 1) + 10 < recursionLimit) (hf : A.frames = some [])
    (h : wpSL (callAt defs n) (fun _ => False) Q (defs f).body (some x :: List.replicate ((defs f).names.length - 1) .none) (fun _ => Option.none) fun _ _ => False)
    (hQ : ∀ y H' v s' W', StOk cA prog w s₀.heap s₀.gens s₀.os s' W' H' → Rep cA s'.heap W' y v → Q y H' → Qm (.ret v) s') :
    wpAny (model prog w) (A.deeper (envOf nm fd.scope L fa cd)) (execs body (envOf nm fd.scope L fa cd)) Qm Em { s₀ with heap := h₁, toks := tk } := by
  have S₀ : StOk cA prog w s₀.heap s₀.gens s₀.os s₀ (fun _ => Option.none) (fun _ => Option.none) := ⟨fun _ _ e => e, fun _ _ _ => rfl, fun b q => absurd rfl q, fun t a o e => (by cases e), rfl, rfl⟩
  have hL : s₀.heap.get? L = none := by
    cases q : s₀.heap.get? L with
    | none => rfl
    | some o => exact absurd (Nat.lt_of_lt_of_le (Heap.lt_size q) F.above) (Nat.lt_irrefl _)
  refine @bc _ fun k_ => ?_
  obtain ⟨ob, es, ep, hob, hdat, hns⟩ := F.ns
  apply k_; clear k_
  have S₁ : StOk cA prog w s₀.heap s₀.gens s₀.os { s₀ with heap := h₁, toks := tk } (Wd.put (fun _ => Option.none) L .mach) (fun _ => Option.none) := S₀.owned (s' := { s₀ with heap := h₁, toks := tk }) hL F.keep ⟨_, hob⟩
  have x₁ : Ext NP s₀ (fun _ => Option.none) { s₀ with heap := h₁, toks := tk } (Wd.put (fun _ => Option.none) L .mach) := Ext.owned hL rfl F.keep
  have noc : ∀ x, fd.scope.names.lookup x ≠ some .cell := fun x q => by
    have := List.all_eq_true.mp nocell _ (mem_of_lookup q)
    simp at this
  have nameLen : (namesN (defs f)).length = (defs f).names.length := by simp [namesN]
  have hpl := FO.names.2.1
  have F₁ : FrOk cA (lookOf fd.scope.names) (namesN (defs f)) (envOf nm fd.scope L fa cd) { s₀ with heap := h₁, toks := tk } (Wd.put (fun _ => Option.none) L .mach) (some x :: List.replicate ((defs f).names.length - 1) .none) := by
    refine ⟨FO.flags.2.2, rfl, rfl, fun x kd hk _ => hk, Wd.put_self .., fun x hx => absurd hx (noc x), fun x y c q => absurd q (noc x), FO.names.1, m, F.ns, fun i z y e1 e2 => ?_⟩
    cases i with
    | zero =>
      rw [hN] at e1; cases e1
      simp at e2; subst e2
      exact ⟨v, x₁.rep rv, .inl ⟨hloc, hm⟩⟩
    | succ i =>
      simp only [List.getElem?_cons_succ, List.getElem?_replicate] at e2
      split at e2 <;> cases e2
  have hfr : (A.deeper (envOf nm fd.scope L fa cd)).frames = some [envOf nm fd.scope L fa cd] := Around.frames_deeper hf
  have Si : Site (A.deeper (envOf nm fd.scope L fa cd)) (2 * n + 1) { s₀ with heap := h₁, toks := tk } (Wd.put (fun _ => Option.none) L .mach) := by
    refine ⟨⟨hA, hu, hd⟩, _, hfr, fun en hen => ?_⟩
    simp only [List.mem_singleton] at hen
    subst hen
    exact ⟨by show fd.scope.kind ≠ _; rw [FO.flags.2.2]; decide, L, ob, rfl, Wd.put_self .., hob, fun vs q => by rw [hdat] at q; cases q⟩
  refine soundSL FX (raiseSnd FX O) (trySnd FX O) (defs f).body FO.check S₁ F₁ ?_ Si ⟨_, hfr⟩ h (fun r' H' s' W' e' S' F' _ h' => h'.elim) (fun y H' v s' W' e' S' r' h' => hQ y H' v s' W' S' r' h') fun e s' W' H' e' S' fl h' => h'.elim
  rw [List.length_cons, List.length_replicate, nameLen]; (first | lia | omega)
end
end Mine
set_option backward.match.sparseCases true
namespace Mine
open PySem PySem.W PyProof.Rows PySem.SeqAt PySem.Calls
noncomputable def allF : List Fn := [.needWritable, .needRoom, .reached, .tellAhead, .tellBehind, .textOut, .textIn, .hungOut, .hungIn, .putIn, .insertAt, .insert, .delete, .insertPiece, .needVisible, .markersAhead, .undoInsert, .undoDelete, .undoRow, .aboveBoundaries, .undoGroup, .splitThere, .hereAt, .rangeThere, .isUntouched, .undoneInsert, .undoneDelete, .undoneRow, .rowsInRegion, .trimmedCount, .lastWasUndo, .dropPoints, .elderRows, .isInRow, .beginUndo, .endUndo, .goOnBehindRedo, .undoRedo, .regionMore, .undoInRegion, .lawDeck, .lawDraw, .lawParts, .lawChanged, .lawUndone, .law, .ulInit, .ulCount, .ulIsAtBoundary, .ulBoundary, .ulNoteState, .ulNoteBegin, .ulNoteInsert, .ulNoteDelete, .undInit, .besInit, .gapInit, .gapSize, .gapCodes, .gapMoveGap, .gapWidenGap, .gapInsert, .gapDelete, .mkInit, .mkNumbers, .mkWithin, .mkInserted, .mkDeleted, .bufInit, .bufSize, .bufCodes, .bufGoto, .bufIsModified, .bufTouch, .pieceInit, .recInit, .recTextComes, .recTextGoes]
noncomputable def allC : List Cls := [.gap, .markers, .buffer, .ulist, .recording, .undoing, .beside, .piece]
noncomputable def allBi : List Bi := [.len, .abs, .sum, .sorted, .range, .min, .max, .list]
theorem allF_mem (f : Fn) : f ∈ allF := List.mem_of_getElem? ((show ∀ i : Fin 78, allF[i.1]? = some ⟨i⟩ by decide +kernel) f.i)
theorem allC_mem (c : Cls) : c ∈ allC := by cases c <;> decide +kernel
theorem allBi_mem (b : Bi) : b ∈ allBi := by cases b <;> decide +kernel
noncomputable def cellF : List Fn := [.insertPiece, .recTextGoes]
noncomputable def dvV : V → Value
  | .bool b => .bool b
  | .int i => .int i 1220
  | _ => .none
noncomputable def dvOf (f : Fn) : List Value := (defs f).dflts.map dvV
noncomputable def dvChk : V → Bool
  | .bool _ => true
  | .int _ => true
  | _ => false
noncomputable def argsN (k : Nat) (a : Nat → Value) : List Value := (List.range k).map a
theorem argsN_eq (args : List Value) : argsN args.length (fun i => args.getD i .none) = args := by
  apply List.ext_getElem
  · simp [argsN]
  · intro i h1 h2
    simp [argsN]
    rw [List.getElem?_eq_getElem h2]; rfl
noncomputable def kList (f : Fn) : List Nat := (List.range ((defs f).dflts.length + 1)).map fun i => (defs f).params - (defs f).dflts.length + i
noncomputable def flat {α : Type} : (v : Option (Option α)) → Option {a : α // v = some (some a)}
  | some (some a) => some ⟨a, rfl⟩
  | _ => none
noncomputable def vInt : (v : Value) → Option {i : Int // ∃ t, v = .int i t}
  | .int i t => some ⟨i, t, rfl⟩
  | _ => none
noncomputable def vRef : (v : Value) → Option {a : Addr // v = .ref a}
  | .ref a => some ⟨a, rfl⟩
  | _ => none
noncomputable def vStr : (v : Value) → Option {s : Str // ∃ t, v = .str s t}
  | .str s t => some ⟨s, t, rfl⟩
  | _ => none
noncomputable def dSeq : (d : Data) → Option {xs : Array Value // ∃ n, d = .seq xs n}
  | .seq xs n => some ⟨xs, n, rfl⟩
  | _ => none
noncomputable def dDict : (d : Data) → Option {es : Array DictEntry // ∃ n, d = .dict es n}
  | .dict xs n => some ⟨xs, n, rfl⟩
  | _ => none
noncomputable def dCls : (d : Data) → Option {c : ClassData // d = .cls c}
  | .cls c => some ⟨c, rfl⟩
  | _ => none
noncomputable def bltn : (v : Option Value) → Option {s : String // v = some (.builtin s)}
  | some (.builtin s) => some ⟨s, rfl⟩
  | _ => none
noncomputable def six {α : Type} : (l : List α) → Option {t : α × α × α × α × α × α // l = [t.1, t.2.1, t.2.2.1, t.2.2.2.1, t.2.2.2.2.1, t.2.2.2.2.2]}
  | [a, b, c, d, e, f] => some ⟨(a, b, c, d, e, f), rfl⟩
  | _ => none
noncomputable def isIntV (i : Int) (v : Option (Option Value)) : Bool := chk (flat v) fun v => chk (vInt v) fun j => j == i
noncomputable def isBnd (K : Frag) (v : Option (Option Value)) : Bool := chk (flat v) fun v => chk (vRef v) fun a => chk (got (K.lookup a)) fun o => o.cls == .type "tuple" && chk (dSeq o.data) fun xs => chk (one xs.toList) fun x => chk (vStr x) fun s => s == Str.ofString "boundary"
noncomputable def isExc (o : Option Obj) : Bool := chk (got o) fun o => chk (dCls o.data) fun c => chk (six o.slots.toList) fun k => chk (bltn k.2.2.2.2.1) fun s =>
  o.cls == .type "type" && (c.bases == [.type "Exception"] && (c.mro == [.ref 38, .type "Exception", .type "BaseException", .type "object"] && (c.ns == 37 && (c.hasDict && (!c.hasDel && s == "Exception.__new__")))))
noncomputable def isStrV (v : Value) : Bool := chk (vStr v) fun _ => true
noncomputable def isExcNs (K : Frag) : Bool := chk (got (K.lookup 37)) fun o => chk (dDict o.data) fun es => es.toList.all (fun e => isStrV e.key) && nsFind es "__init__" == some (.ref 35)
noncomputable def initChk (K : Frag) (a : Addr) : Bool := isFd K a && codeIn K (fdOf K a).code (fdOf K a).qualname && (!(fdOf K a).scope.isCoroutine && !(fdOf K a).scope.isGenerator && (match (fdOf K a).scope.kind with | .function => true | _ => false)) &&
  (initOf (bodyOf (fdOf K a)) == some (nSelf, nSym, nSym, nSelf, nData, nData)) && (fdOf K a).scope.names.all (fun x => x.2 != .cell) && (fdOf K a).scope.names.lookup nSelf == some .local && (fdOf K a).scope.names.lookup nSym == some .local && (fdOf K a).scope.names.lookup nData == some .local &&
  (match K.lookup a with | some o => o.cls == .type "function" | none => false)
noncomputable def clsChk (K : Frag) (c : Cls) : Bool := nsIn K mainGlobals (Str.ofString c.name) == some (some (.ref (cA c))) && hasDictIn K (cA c) && plainGet K (cA c) ("" : Str) && findIn K (.ref (cA c)) "__setattr__" == some (some (.builtin "object.__setattr__")) && plainOver K (cA c) &&
  (c.fields.all fun n => findIn K (.ref (cA c)) (Str.ofString n) == some none) && makesIn K (cA c) && findIn K (.ref (cA c)) "__init__" == some (some (.ref (fA (initFn c)))) && keepIn K (.ref (cA c))
noncomputable def fChk (K : Frag) (f : Fn) : Bool := fnChk K f (fA f) && isFn K (.ref (fA f)) && keepIn K (.ref (fA f)) &&
  (match f.cls with
    | some c => findIn K (.ref (cA c)) (Str.ofString f.name) == some (some (.ref (fA f)))
    | none => nsIn K mainGlobals (Str.ofString f.name) == some (some (.ref (fA f)))) && (cellF.contains f || (fdOf K (fA f)).scope.names.all fun x => x.2 != .cell)
noncomputable def restChk (K : Frag) : Bool := (allBi.all fun b => nsIn K mainGlobals (Str.ofString b.name) == some none) && isBnd K (nsIn K mainGlobals (Str.ofString "BOUNDARY")) && isIntV (-1) (nsIn K mainGlobals (Str.ofString "IN_REGION")) && isIntV 4194304 (nsIn K mainGlobals (Str.ofString "LONGEST")) &&
  nsIn K mainGlobals (Str.ofString "LispSignal") == some (some (.ref 38)) && keepIn K (.ref 38) && findIn K (.ref 38) "__setattr__" == some (some (.builtin "object.__setattr__")) && findIn K (.ref 38) nSym == some none && findIn K (.ref 38) nData == some none &&
  isExc (K.lookup 38) && isExcNs K && initChk K 35
noncomputable def pL (K : Frag) (S : Setting) (a : Nat → Value) (f : Fn) : List (Option (List (Str × Value))) := (kList f).map fun k => if cellF.contains f then none else peek K S (bindArgs (fdOf K (fA f)) ⟨argsN k a, []⟩)
noncomputable def pR (a : Nat → Value) (f : Fn) : List (Option (List (Str × Value))) := (kList f).map fun k => if cellF.contains f then none else some (((namesN (defs f)).take (defs f).params).zip (argsN k a ++ (dvOf f).drop (k + (defs f).dflts.length - (defs f).params)))
noncomputable def bL (K : Frag) (a : Nat → Value) (f : Fn) : Sem (List (Str × Value)) := bindArgs (fdOf K (fA f)) ⟨argsN (defs f).params a, []⟩
noncomputable def bR (a : Nat → Value) (f : Fn) : Sem (List (Str × Value)) := pure (((namesN (defs f)).take (defs f).params).zip (argsN (defs f).params a))
noncomputable def cL (K : Frag) (L : Nat) (f : Fn) : Bool := (namesN (defs f)).all (fun m => (fdOf K (fA f)).scope.names.lookup m != some .cell || ((cellsFrom L (fdOf K (fA f)).scope.names []).lookup m).isSome) && (fdOf K (fA f)).scope.names.all (fun x => x.2 != .cell || ((fdOf K (fA f)).scope.names.lookup x.1 == some .cell && ((cellsFrom L (fdOf K (fA f)).scope.names []).lookup x.1).isSome))
abbrev ObsT : Type := Bool × (Setting → (Nat → Value) → List (List (Option (List (Str × Value))))) × ((Nat → Value) → List (Sem (List (Str × Value)))) × (Nat → Bool) × ((Nat → Value) → Sem (List (Str × Value)))
noncomputable def obsK (K : Frag) : ObsT :=
  ((allF.all (fChk K) && allC.all (clsChk K) && restChk K),
   (fun (S : Setting) (a : Nat → Value) => allF.map (pL K S a)),
   (fun (a : Nat → Value) => cellF.map (bL K a)),
   (fun (L : Nat) => cellF.all (cL K L)),
   (fun (a : Nat → Value) => bindArgs (fdOf K 35) ⟨argsN 3 a, []⟩))
noncomputable def valK : ObsT :=
  (true, (fun S a => allF.map (pR a)), (fun a => cellF.map (bR a)), (fun L => true), (fun a => pure [(nSelf, a 0), (nSym, a 1), (nData, a 2)]))
theorem map_at {α β : Type} {f g : α → β} {l : List α} (h : l.map f = l.map g) {x : α} (m : x ∈ l) : f x = g x := List.map_inj_left.mp h x m
end Mine
set_option backward.match.sparseCases true
namespace Mine
open PySem PySem.W PyProof.Rows PySem.SeqAt PySem.Calls
theorem reps_drop {cA : Cls → Addr} {h : Heap} {W : Wd} (j : Nat) {xs : List V} {vs : List Value} (r : Reps cA h W xs vs) : Reps cA h W (xs.drop j) (vs.drop j) := r.drop cA j
theorem dv_all {cA : Cls → Addr} {h : Heap} {W : Wd} : ∀ l : List V, l.all dvChk = true → Reps cA h W l (l.map dvV) := by
  intro l
  induction l with
  | nil => exact fun _ => trivial
  | cons x l ih =>
    intro q
    rw [List.all_cons] at q
    obtain ⟨q1, q2⟩ := and_ok q
    refine ⟨?_, ih q2⟩
    cases x with
    | bool b => exact rfl
    | int i => exact ⟨1220, rfl⟩
    | _ => cases q1
theorem dv_chk : ∀ i : Fin 78, (defs ⟨i⟩).dflts.all dvChk = true := by decide +kernel
theorem dv_reps {cA : Cls → Addr} {h : Heap} {W : Wd} (f : Fn) : Reps cA h W (defs f).dflts (dvOf f) := dv_all _ (dv_chk f.i)
theorem intV_of {i : Int} {v : Option (Option Value)} (h : isIntV i v = true) : ∃ t, v = some (some (.int i t)) := by
  refine @bc _ fun k_ => ?_
  obtain ⟨v, hv, h⟩ := chk_ok h
  obtain ⟨j, ⟨t, hj⟩, h⟩ := chk_ok h
  apply k_; clear k_
  exact ⟨t, by rw [hv, hj, eq_of_beq h]⟩
theorem arr_of {α : Type} {xs : Array α} {l : List α} (h : xs.toList = l) : xs = ⟨l⟩ := by cases xs; cases h; rfl
theorem bnd_of {K : Frag} {v : Option (Option Value)} (h : isBnd K v = true) : ∃ a o t n, v = some (some (.ref a)) ∧ K.lookup a = some o ∧ o.cls = .type "tuple" ∧ o.data = .seq #[.str (Str.ofString "boundary") t] n := by
  refine @bc _ fun k_ => ?_
  obtain ⟨v, hv, h⟩ := chk_ok h
  obtain ⟨a, ha, h⟩ := chk_ok h
  obtain ⟨o, ho, h⟩ := chk_ok h
  obtain ⟨hc, h⟩ := and_ok h
  obtain ⟨xs, ⟨n, hx⟩, h⟩ := chk_ok h
  obtain ⟨x, hl, h⟩ := chk_ok h
  obtain ⟨s, ⟨t, hs⟩, h⟩ := chk_ok h
  apply k_; clear k_
  exact ⟨a, o, t, n, by rw [hv, ha], ho, eq_of_beq hc, by rw [hx, arr_of hl, hs, eq_of_beq h]⟩
theorem exc_of {o : Option Obj} (h : isExc o = true) : ∃ nm q sn sub ab col dd k0 k1 k2 k3 k5, o = some (excClassObj nm q 38 37 [.type "Exception"] [.type "Exception", .type "BaseException", .type "object"] true sn sub ab col dd k0 k1 k2 k3 k5 "Exception.__new__") := by
  refine @bc _ fun k_ => ?_
  obtain ⟨o, ho, h⟩ := chk_ok h
  obtain ⟨c, hc, h⟩ := chk_ok h
  obtain ⟨k, hk, h⟩ := chk_ok h
  obtain ⟨s, hs, h⟩ := chk_ok h
  obtain ⟨h1, h⟩ := and_ok h
  obtain ⟨h2, h⟩ := and_ok h
  obtain ⟨h3, h⟩ := and_ok h
  obtain ⟨h4, h⟩ := and_ok h
  obtain ⟨h5, h⟩ := and_ok h
  obtain ⟨h6, h7⟩ := and_ok h
  apply k_; clear k_
  have e1 := eq_of_beq h1
  have e2 := eq_of_beq h2
  have e3 := eq_of_beq h3
  have e4 := eq_of_beq h4
  have e6 := not_ok h6
  have e7 := eq_of_beq h7
  refine ⟨c.name, c.qualname, c.slotNames, c.subclasses, c.abstract, c.collection, o.dict, k.1, k.2.1, k.2.2.1, k.2.2.2.1, k.2.2.2.2.2, ?_⟩
  rw [ho]
  obtain ⟨oc, od, odt, osl⟩ := o
  obtain ⟨nm, bs, mro, ns, q, hd, sn, sub, ab, col, del⟩ := c
  dsimp only at hc hk hs e1 e2 e3 e4 h5 e6 e7
  simp only [e1, hc, e2, e3, e4, h5, e6, arr_of hk, hs, e7]
theorem isStrV_eq {v : Value} (h : isStrV v = true) : ∃ n t, v = .str n t := by
  refine @bc _ fun k_ => ?_
  obtain ⟨n, ⟨t, e⟩, _⟩ := chk_ok h
  apply k_; clear k_
  exact ⟨n, t, e⟩
theorem excNs_of {K : Frag} (h : isExcNs K = true) : ∃ o es n, K.lookup 37 = some o ∧ o.data = .dict es n ∧ es.toList.all (fun e => isStrV e.key) = true ∧ nsFind es "__init__" = some (.ref 35) := by
  refine @bc _ fun k_ => ?_
  obtain ⟨o, ho, h⟩ := chk_ok h
  obtain ⟨es, ⟨n, he⟩, h⟩ := chk_ok h
  apply k_; clear k_
  exact ⟨o, es, n, ho, he, (and_ok h).1, eq_of_beq (and_ok h).2⟩
section
variable {K : Frag} (h : obsK K = valK)
include h
theorem kg_chk : allF.all (fChk K) = true ∧ allC.all (clsChk K) = true ∧ restChk K = true := by
  have e := congrArg Prod.fst h
  have e : (allF.all (fChk K) && allC.all (clsChk K) && restChk K) = true := e
  simp only [Bool.and_eq_true] at e
  exact ⟨e.1.1, e.1.2, e.2⟩
theorem kg_f (f : Fn) : fChk K f = true := List.all_eq_true.mp (kg_chk h).1 f (allF_mem f)
theorem kg_c (c : Cls) : clsChk K c = true := List.all_eq_true.mp (kg_chk h).2.1 c (allC_mem c)
theorem kg_fn (f : Fn) : FnOk K f (fA f) (fdOf K (fA f)) (bodyOf (fdOf K (fA f))) := by
  have q := kg_f h f
  unfold fChk at q
  simp only [Bool.and_eq_true] at q
  refine @bc _ fun k_ => ?_
  obtain ⟨⟨⟨⟨q1, _⟩, _⟩, _⟩, q5⟩ := q
  apply k_; clear k_
  refine fnOk_of q1 ?_
  cases hc : cellF.contains f with
  | false =>
    rw [hc] at q5
    refine .inl ⟨by simpa using q5, fun args h1 h2 => ⟨(dvOf f).drop (args.length + (defs f).dflts.length - (defs f).params), fun _ _ _ => reps_drop _ (dv_reps f), fun S => ?_⟩⟩
    have e : allF.map (pL K S (fun i => args.getD i .none)) = allF.map (pR (fun i => args.getD i .none)) := congrFun (congrFun (congrArg (fun x : ObsT => x.2.1) h) S) (fun i => args.getD i .none)
    have e := map_at e (allF_mem f)
    unfold pL pR at e
    have hk : args.length ∈ kList f := by
      unfold kList
      simp only [List.mem_map, List.mem_range]
      exact ⟨args.length - ((defs f).params - (defs f).dflts.length), by omega, by omega⟩
    have e := map_at e hk
    rw [hc, argsN_eq] at e
    exact e
  | true =>
    have hm : f = .insertPiece ∨ f = .recTextGoes := by
      have := List.contains_iff_mem.mp hc
      simpa [cellF] using this
    have hmem : f ∈ cellF := List.contains_iff_mem.mp hc
    refine .inr ⟨by rcases hm with rfl | rfl <;> rfl, fun args hl => ?_, fun L => ?_⟩
    · have e : cellF.map (bL K (fun i => args.getD i .none)) = cellF.map (bR (fun i => args.getD i .none)) := congrFun (congrArg (fun x : ObsT => x.2.2.1) h) (fun i => args.getD i .none)
      have e := map_at e hmem
      unfold bL bR at e
      rw [← hl, argsN_eq] at e
      rw [← hl]
      exact e
    · have e : cellF.all (cL K L) = true := congrFun (congrArg (fun x : ObsT => x.2.2.2.1) h) L
      have e := List.all_eq_true.mp e f hmem
      unfold cL at e
      simp only [Bool.and_eq_true] at e
      exact e
theorem kg_ok {base : Heap} (X : K.In base) {mg mb : Str → Option Value} (h1 : base.Ns mainGlobals mg) (h2 : base.Ns builtinsNs mb) (h3 : base.NoLimit) (h4 : ∀ x : Str, x ≠ "__name__" → mb x = bootBuiltins x) : KOk K cA fA base := by
  have hr := (kg_chk h).2.2
  unfold restChk at hr
  simp only [Bool.and_eq_true, beq_iff_eq] at hr
  refine @bc _ fun k_ => ?_
  obtain ⟨⟨⟨⟨⟨⟨⟨⟨⟨⟨⟨r1, r2⟩, r3⟩, r4⟩, r5⟩, r6⟩, r7⟩, r8⟩, r9⟩, r10⟩, r11⟩, r12⟩ := hr
  apply k_; clear k_
  have hc := fun c => (by have q := kg_c h c; unfold clsChk at q; simpa only [Bool.and_eq_true, beq_iff_eq] using q : _)
  have hf := fun f => (by have q := kg_f h f; unfold fChk at q; simpa only [Bool.and_eq_true, beq_iff_eq] using q : _)
  refine ⟨X, ⟨mg, mb, h1, h2, h3, h4⟩, fun f hn => ?_, fun c => ?_, fun b => ⟨?_, ?_⟩, ?_, ⟨?_, ?_⟩, fun c => ?_, fun c => ?_, fun f c hfc => ?_, fun f => ⟨?_, ?_⟩, fun c => ?_⟩
  · have q := (hf f).1.2
    rw [hn] at q
    simpa using q
  · exact (hc c).1.1.1.1.1.1.1.1
  · simpa using List.all_eq_true.mp r1 b (allBi_mem b)
  · cases b <;> kernel_rfl
  · exact bnd_of r2
  · exact intV_of r3
  · exact intV_of r4
  · exact ⟨(hc c).1.1.1.1.1.1.1.2, (hc c).1.1.1.1.1.1.2, (hc c).1.1.1.1.1.2, (hc c).1.1.1.1.2, (hc c).1.1.1.2⟩
  · exact ⟨(hc c).1.1.2, (hc c).1.2⟩
  · have q := (hf f).1.2
    rw [hfc] at q
    simpa using q
  · exact (hf f).1.1.1.2
  · exact (hf f).1.1.2
  · exact (hc c).2
theorem kg_exc {base : Heap} (X : K.In base) : ExcOk K base 38 35 := by
  have hr := (kg_chk h).2.2
  unfold restChk at hr
  simp only [Bool.and_eq_true, beq_iff_eq] at hr
  refine @bc _ fun k_ => ?_
  obtain ⟨⟨⟨⟨⟨⟨⟨⟨⟨⟨⟨r1, r2⟩, r3⟩, r4⟩, r5⟩, r6⟩, r7⟩, r8⟩, r9⟩, r10⟩, r11⟩, hi⟩ := hr
  apply k_; clear k_
  unfold initChk at hi
  simp only [Bool.and_eq_true, Bool.not_eq_true', decide_eq_true_eq, beq_iff_eq] at hi
  refine @bc _ fun k_ => ?_
  obtain ⟨⟨⟨⟨⟨⟨⟨⟨h1, h2⟩, ⟨h3, h4⟩, h5⟩, h6⟩, h7⟩, h8⟩, h9⟩, h10⟩, h11⟩ := hi
  obtain ⟨⟨o, q1, q2⟩, q3⟩ := isFd_obj h1
  obtain ⟨nm, q, sn, sub, ab, col, dd, k0, k1, k2, k3, k5, x1⟩ := exc_of r10
  obtain ⟨on, es, n, n1, n2, n3, n4⟩ := excNs_of r11
  apply k_; clear k_
  refine ⟨⟨nm, q, 37, sn, sub, ab, col, dd, k0, k1, k2, k3, k5, fun x => nsFind es x, x1, ⟨_, _, _, X _ _ n1, n2, fun e he => ?_, fun _ => rfl⟩, n4⟩, r5, r6, r7, ⟨r8, r9⟩, o, _, _, q1, ?_, q2, h2, q3, h3, h4, ?_, h6, fun x hx => ?_, h8, h9, h10, fun a b c => ?_⟩
  · exact isStrV_eq (List.all_eq_true.mp n3 e (Array.mem_toList_iff.mpr he))
  · rw [q1] at h11; exact beq_iff_eq.mp h11
  · refine @bc _ fun k_ => ?_
    split at h5 <;> (apply k_; clear k_)
    · assumption
    · exfalso
      cases h5
  · have := List.all_eq_true.mp h7 x hx
    simpa using this
  · exact congrFun (congrArg (fun x : ObsT => x.2.2.2.2) h) (fun i => [a, b, c].getD i .none)
theorem kg_calls {w : World} {g₀ : Array GenState} {o₀ : OsState} {base : Heap} (KO : KOk K cA fA base) : ∀ n, CallSnd cA fA xA prog w base g₀ o₀ n :=
  calls_all KO (kg_exc h KO.inK) fun f => ⟨_, _, kg_fn h f⟩
end
noncomputable def SaysK (a : Addr) (sc : Scope × List Stmt) (h : Heap) : Prop := ∃ K : Frag, K.In h ∧ obsK K = valK ∧ (fdOf K a).scope = sc.1 ∧ bodyOf (fdOf K a) = sc.2
noncomputable def kgHook (a : Addr) (sc : Scope × List Stmt) : Hook :=
  ⟨Bool, fun s => @decide (SaysK a sc s.heap) (Classical.propDecidable _), fun _ => true, fun _ h => SaysK a sc h,
   fun _ s e => @of_decide_eq_true _ (Classical.propDecidable _) e, fun _ h h' ⟨K, k1, k2⟩ k => ⟨K, k1.keeps k, k2⟩⟩
end Mine
set_option maxRecDepth 1000000
set_option backward.match.sparseCases true
namespace Mine
open PySem PySem.W PyProof.Rows
theorem rb : (fun w : World => (runQ w).map fun x => ((allF.drop 45).all (fChk (fragT asL x.2)) && allC.all (clsChk (fragT asL x.2)) && restChk (fragT asL x.2))) = fun _ => some true := by kernel_rfl
end Mine
set_option backward.match.sparseCases true
namespace Mine
open PySem PySem.W PyProof.Rows
theorem rb1 : (fun w : World => (runQ w).map fun x => (allF.take 45).all (fChk (fragT asL x.2))) = fun _ => some true := by kernel_rfl
end Mine
set_option backward.match.sparseCases true
namespace Mine
open PySem PySem.W PyProof.Rows
theorem rb2 : (fun w : World => (runQ w).map fun x => (afterB x.1 x.2.abs, (osOf x.2).2.2.2.2.2.2.1, (obsK (fragT asL x.2)).2, (fdOf (fragT asL x.2) (fA .law)).scope, bodyOf (fdOf (fragT asL x.2) (fA .law)))) = fun _ => some (true, plainGoodD vq loose, valK.2, dLaw.scope, dLaw.body) := by kernel_rfl
end Mine
set_option maxRecDepth 100000
set_option backward.match.sparseCases false
namespace Mine
theorem call_open {f : Fn} {args : List V} {H : St} {Q : V → St → Prop} {X : St → Prop} {m : Nat}
    (h1 : (argsOf (defs f) args).length = (defs f).params) (h2 : wpSL (callAt defs m) X Q (defs f).body ((argsOf (defs f) args).map some ++ List.replicate ((defs f).names.length - (defs f).params) .none) H fun _ H => Q .none H) : callAt defs (m + 1) f args H Q X := ⟨h1, h2⟩
theorem evP_v {H r i} : evP H r (.v i) = (r[i]?).join := rfl
theorem evP_int {H r i} : evP H r (.int i) = some (.int i) := rfl
theorem evP_bool {H r b} : evP H r (.bool b) = some (.bool b) := rfl
theorem evP_word {H r w} : evP H r (.word w) = some (.str w) := rfl
theorem evP_op1 {H r o a} : evP H r (.op1 o a) = (evP H r a).bind (ev1 H o) := rfl
theorem evP_op2 {H r o a b} : evP H r (.op2 o a b) = (evP H r a).bind fun x => (evP H r b).bind fun y => ev2 H o x y := rfl
theorem evP_disp {H r args} : evP H r (.frz (.disp args)) = (evPs H r args).bind fun vs => if vs.length ≤ lim then some (.lst vs) else .none := rfl
theorem evPs_nil {H r} : evPs H r .nil = some [] := rfl
theorem evPs_cons {H r e es} : evPs H r (.cons e es) = (evP H r e).bind fun v => (evPs H r es).map (v :: ·) := rfl
theorem compRun_cons {H elt cond n x xs} : compRun H elt cond n (x :: xs) = (binds1 n x).bind fun r => ((evP H r cond).bind boolV).bind fun b => match b with
    | true => (evP H r elt).bind fun y => (compRun H elt cond n xs).map (y :: ·)
    | false => compRun H elt cond n xs := rfl
theorem eqV_str {n : Nat} {a b : Word} : eqV (n + 1) (.str a) (.str b) = some (decide (a = b)) := rfl
theorem eqH_str {H : St} {a : Word} {y : V} : eqH H (.str a) y = eqV 8 (.str a) y := rfl
section
variable {C : CallT} {X : St → Prop} {r : Loc} {H : St} {R : V → St → Prop} {N : Loc → St → Prop} {Q : V → St → Prop} {Qs : List V → St → Prop}
theorem e_v {i x} (h : (r[i]?).join = some x) (q : Q x H) : wpE C X r (.v i) H Q := optP_of h q
theorem e_none (q : Q .none H) : wpE C X r .none H Q := q
theorem e_bool {b} (q : Q (.bool b) H) : wpE C X r (.bool b) H Q := q
theorem e_int {b} (q : Q (.int b) H) : wpE C X r (.int b) H Q := q
theorem e_word {b} (q : Q (.str b) H) : wpE C X r (.word b) H Q := q
theorem e_glob {b} (q : Q (globV b) H) : wpE C X r (.glob b) H Q := q
theorem e_edict (q : Q .edict H) : wpE C X r .edict H Q := q
theorem o_some {α : Type} {x : α} {P : α → Prop} (q : P x) : optP (some x) P := q
theorem o_fld {t a c xs i v} {P : V → Prop} (h : H t = some (a, .inst c xs)) (e : xs[i]? = some v) (q : P v) : optP (ev1 H (.fld c i) (.ref t a)) P := by
  have : ev1 H (.fld c i) (.ref t a) = some v := by simp [ev1, fldsV, h, e]
  exact optP_of this q
theorem o_items {t a xs} {P : List V → Prop} (h : H t = some (a, .list xs)) (q : P xs) : optP (itemsV H (.ref t a)) P := by
  have : itemsV H (.ref t a) = some xs := by simp [itemsV, h]
  exact optP_of this q
theorem o_len {t a xs} {P : V → Prop} (h : H t = some (a, .list xs)) (q : P (.int xs.length)) : optP (ev1 H .len (.ref t a)) P := by
  have : ev1 H .len (.ref t a) = some (.int xs.length) := by simp [ev1, itemsV, h]
  exact optP_of this q
theorem o_idx {t a xs k v} {P : V → Prop} (h : H t = some (a, .list xs)) (e : getAt xs k = some v) (q : P v) : optP (ev2 H .idx (.ref t a) (.int k)) P := by
  have : ev2 H .idx (.ref t a) (.int k) = some v := by simp [ev2, seqV, itemsV, h, e]
  exact optP_of this q
theorem o_idxL {xs k v} {P : V → Prop} (e : getAt xs k = some v) (q : P v) : optP (ev2 H .idx (.lst xs) (.int k)) P := optP_of (x := v) (by simp [ev2, seqV, itemsV, e]) q
theorem o_idxT {xs k v} {P : V → Prop} (e : getAt xs k = some v) (q : P v) : optP (ev2 H .idx (.tup xs) (.int k)) P := optP_of (x := v) (by simp [ev2, seqV, itemsV, e]) q
theorem o_setF {t a c xs i x} {P : St → Prop} (h : H t = some (a, .inst c xs)) (e : i < xs.length) (q : P (upd H t (some (a, .inst c (xs.set i x))))) : optP (setFld H c i x (.ref t a)) P := by
  have : setFld H c i x (.ref t a) = some (upd H t (some (a, .inst c (xs.set i x)))) := (onO_of h (instO_self c xs)).trans (if_pos e)
  exact optP_of this q
theorem o_newF {t a c xs i x} {P : St → Prop} (h : H t = some (a, .inst c xs)) (e : i = xs.length) (q : P (upd H t (some (a, .inst c (xs ++ [x]))))) : optP (setFld H c i x (.ref t a)) P := by
  have : setFld H c i x (.ref t a) = some (upd H t (some (a, .inst c (xs ++ [x])))) := (onO_of h (instO_self c xs)).trans ((if_neg (by rw [e]; exact Nat.lt_irrefl _)).trans (if_pos e))
  exact optP_of this q
theorem o_setS {t a xs lo hi ys} {P : St → Prop} (h : H t = some (a, .list xs)) (e : xs.length + ys.length ≤ lim) (q : P (upd H t (some (a, .list (setSlice xs lo hi ys))))) : optP (setSlc H lo hi ys (.ref t a)) P := by
  have : setSlc H lo hi ys (.ref t a) = some (upd H t (some (a, .list (setSlice xs lo hi ys)))) := (onO_of h rfl).trans (if_pos e)
  exact optP_of this q
theorem o_app {t a xs x} {P : St → Prop} (h : H t = some (a, .list xs)) (e : xs.length + 1 ≤ lim) (q : P (upd H t (some (a, .list (xs ++ [x]))))) : optP (appendTo H x (.ref t a)) P := by
  have : appendTo H x (.ref t a) = some (upd H t (some (a, .list (xs ++ [x])))) := (onO_of h rfl).trans (if_pos e)
  exact optP_of this q
theorem isList {t a xs} {P : Prop} (h : H t = some (a, .list xs)) (q : P) : (itemsV H (.ref t a)).isSome = true ∧ P := ⟨by simp [itemsV, h], q⟩
theorem isA_ref {f : Fn} {t a c xs} {P : Prop} (h : H t = some (a, .inst c xs)) (e : f.cls = some c) (q : P) : isA H f (.ref t a) ∧ P := ⟨by simp [isA, e, fldsV, h], q⟩
theorem isA_val {f : Fn} {c xs} {P : Prop} (e : f.cls = some c) (q : P) : isA H f (.inst c xs) ∧ P := ⟨by simp [isA, e, fldsV], q⟩
theorem b_t {c : Bool} {P P' : Prop} (h : c = true) (q : P) : boolIf (.bool c) P P' := by subst h; exact q
theorem b_f {c : Bool} {P P' : Prop} (h : c = false) (q : P') : boolIf (.bool c) P P' := by subst h; exact q
theorem b_two {p : Prop} [Decidable p] {P P' : Prop} (h1 : p → P) (h2 : ¬ p → P') : boolIf (.bool (decide p)) P P' := by
  by_cases h : p
  · exact b_t (decide_eq_true h) (h1 h)
  · exact b_f (decide_eq_false h) (h2 h)
theorem b_any {c : Bool} {P P' : Prop} (h1 : c = true → P) (h2 : c = false → P') : boolIf (.bool c) P P' := by
  cases c
  · exact h2 rfl
  · exact h1 rfl
theorem b_out {c : Bool} {P : Bool → Prop} (q : P c) : boolP (.bool c) P := q
theorem lim_and {xs : List V} {P : Prop} (h : xs.length ≤ lim) (q : P) : xs.length ≤ lim ∧ P := ⟨h, q⟩
theorem p_add {a b : Int} {P : V → Prop} (q : P (.int (a + b))) : optP (ev2 H .add (.int a) (.int b)) P := q
theorem p_sub {a b : Int} {P : V → Prop} (q : P (.int (a - b))) : optP (ev2 H .sub (.int a) (.int b)) P := q
theorem p_lt {a b : Int} {P : V → Prop} (q : P (.bool (decide (a < b)))) : optP (ev2 H .lt (.int a) (.int b)) P := q
theorem p_le {a b : Int} {P : V → Prop} (q : P (.bool (decide (a ≤ b)))) : optP (ev2 H .le (.int a) (.int b)) P := q
theorem p_gt {a b : Int} {P : V → Prop} (q : P (.bool (decide (b < a)))) : optP (ev2 H .gt (.int a) (.int b)) P := q
theorem p_ge {a b : Int} {P : V → Prop} (q : P (.bool (decide (b ≤ a)))) : optP (ev2 H .ge (.int a) (.int b)) P := q
theorem p_min {a b : Int} {P : V → Prop} (q : P (.int (min a b))) : optP (ev2 H .min (.int a) (.int b)) P := q
theorem p_max {a b : Int} {P : V → Prop} (q : P (.int (max a b))) : optP (ev2 H .max (.int a) (.int b)) P := q
theorem p_eqi {a b : Int} {P : V → Prop} (q : P (.bool (decide (a = b)))) : optP (ev2 H .eq (.int a) (.int b)) P := q
theorem p_nei {a b : Int} {P : V → Prop} (q : P (.bool (!decide (a = b)))) : optP (ev2 H .ne (.int a) (.int b)) P := q
theorem p_len {xs : List V} {P : V → Prop} (q : P (.int xs.length)) : optP (ev1 H .len (.lst xs)) P := q
theorem p_not {b : Bool} {P : V → Prop} (q : P (.bool (!b))) : optP (ev1 H .not_ (.bool b)) P := q
end
noncomputable def iv (l : List Int) : List V := l.map .int
theorem iv_len (l : List Int) : (iv l).length = l.length := by simp [iv]
theorem iv_app (a b : List Int) : iv (a ++ b) = iv a ++ iv b := by simp [iv]
theorem iv_take (a : List Int) (n : Nat) : (iv a).take n = iv (a.take n) := by simp [iv, List.map_take]
theorem iv_drop (a : List Int) (n : Nat) : (iv a).drop n = iv (a.drop n) := by simp [iv, List.map_drop]
theorem intsV_iv : ∀ l, intsV (iv l) = some l
  | [] => rfl
  | a :: l => by show (intsV (iv l)).map _ = _; rw [intsV_iv l]; rfl
theorem take_app {α : Type} {A B : List α} {n k : Nat} (h : n = A.length + k) : (A ++ B).take n = A ++ B.take k := by
  subst h; rw [List.take_append, List.take_of_length_le (by (first | lia | omega)), Nat.add_sub_cancel_left]
theorem drop_app {α : Type} {A B : List α} {n k : Nat} (h : n = A.length + k) : (A ++ B).drop n = B.drop k := by
  subst h; rw [List.drop_append, List.drop_eq_nil_of_le (by (first | lia | omega)), Nat.add_sub_cancel_left]; rfl
theorem clip_of {n : Nat} {k : Int} {m : Nat} (h : k = m) (hm : m ≤ n) : clip n k = m := by
  subst h
  unfold clip
  rw [if_neg (by (first | lia | omega))]
  simp only [Int.toNat_natCast]
  exact Nat.min_eq_left hm
theorem pySlice_of {xs : List V} {lo hi : Int} {a b : Nat} (h1 : lo = a) (h2 : hi = b) (ha : a ≤ xs.length) (hb : b ≤ xs.length) : pySlice xs lo hi = (xs.take b).drop a := by
  unfold pySlice; rw [clip_of h1 ha, clip_of h2 hb]
theorem slc_mid {A B C : List V} {lo hi : Int} (h1 : lo = A.length) (h2 : hi = A.length + B.length) : pySlice (A ++ (B ++ C)) lo hi = B := by
  rw [pySlice_of (a := A.length) (b := A.length + B.length) h1 (by (first | lia | omega)) (by simp) (by simp)]
  simp [List.take_append, List.drop_append]
theorem set_mid {A B C D : List V} {lo hi : Int} (h1 : lo = A.length) (h2 : hi = A.length + B.length) : setSlice (A ++ (B ++ C)) lo hi D = A ++ (D ++ C) := by
  unfold setSlice
  rw [clip_of (m := A.length) h1 (by simp), clip_of (m := A.length + B.length) (by (first | lia | omega)) (by simp)]
  have : Nat.max A.length (A.length + B.length) = A.length + B.length := by simp
  rw [this]
  simp [List.take_append, List.drop_append]
theorem lim_big {n : Nat} (h : n ≤ 200000) : n ≤ lim := by unfold lim; (first | lia | omega)
section
variable {C : CallT} {X : St → Prop} {r : Loc} {H : St} {R : V → St → Prop} {N : Loc → St → Prop} {Q : V → St → Prop} {Qs : List V → St → Prop}
theorem c_asg {i e rest} (q : wpE C X r e H (KA i r (KS C X R rest N))) : wpSL C X R (.cons (.asg i e) rest) r H N := q
theorem c_A {i x rest} (q : wpSL C X R rest (r.put i x) H N) : KA i r (KS C X R rest N) x H := q
theorem c_ex {e rest} (q : wpE C X r e H (KX r (KS C X R rest N))) : wpSL C X R (.cons (.ex e) rest) r H N := q
theorem c_X {x rest} (q : wpSL C X R rest r H N) : KX r (KS C X R rest N) x H := q
theorem c_setF {o c i e rest} (q : wpE C X r e H (KF1 C X o c i r (KS C X R rest N))) : wpSL C X R (.cons (.setF o c i e) rest) r H N := q
theorem c_ite {t a b rest} (q : wpE C X r t H (KI C X R a b r (KS C X R rest N))) : wpSL C X R (.cons (.ite t a b) rest) r H N := q
theorem c_ret {e rest} (q : wpE C X r e H R) : wpSL C X R (.cons (.ret e) rest) r H N := q
theorem c_nil {v} (q : Qs [v] H) : wpEs C X r .nil H (KEs2 v Qs) := q
theorem c_nilM {f o v} (q : C f [o, v] H Q X) : wpEs C X r .nil H (KEs2 v (KM2 C X f o Q)) := q
theorem c_nilC {f v} (q : C f [v] H Q X) : wpEs C X r .nil H (KEs2 v (KCl C X f Q)) := q
theorem c_skip {rest} (q : wpSL C X R rest r H N) : wpSL C X R .nil r H (KS C X R rest N) := q
theorem c_add {a b : Int} (q : Q (.int (a + b)) H) : K2b .add (.int a) Q (.int b) H := q
theorem c_sub {a b : Int} (q : Q (.int (a - b)) H) : K2b .sub (.int a) Q (.int b) H := q
theorem c_lt {a b : Int} (q : Q (.bool (decide (a < b))) H) : K2b .lt (.int a) Q (.int b) H := q
theorem c_le {a b : Int} (q : Q (.bool (decide (a ≤ b))) H) : K2b .le (.int a) Q (.int b) H := q
theorem c_gt {a b : Int} (q : Q (.bool (decide (b < a))) H) : K2b .gt (.int a) Q (.int b) H := q
theorem c_ge {a b : Int} (q : Q (.bool (decide (b ≤ a))) H) : K2b .ge (.int a) Q (.int b) H := q
theorem c_min {a b : Int} (q : Q (.int (min a b)) H) : K2b .min (.int a) Q (.int b) H := q
theorem c_max {a b : Int} (q : Q (.int (max a b)) H) : K2b .max (.int a) Q (.int b) H := q
theorem c_eqi {a b : Int} (q : Q (.bool (decide (a = b))) H) : K2b .eq (.int a) Q (.int b) H := q
theorem c_nei {a b : Int} (q : Q (.bool (!decide (a = b))) H) : K2b .ne (.int a) Q (.int b) H := q
theorem c_len {xs : List V} (q : Q (.int xs.length) H) : K1 .len Q (.lst xs) H := q
theorem c_not {b : Bool} (q : Q (.bool (!b)) H) : K1 .not_ Q (.bool b) H := q
theorem c_esv {i es x} (h : (r[i]?).join = some x) (q : wpEs C X r es H (KEs2 x Qs)) : wpEs C X r (.cons (.v i) es) H Qs := e_v (C := C) (X := X) (Q := KEs C X es r Qs) h q
theorem c_esi {k : Int} {es} (q : wpEs C X r es H (KEs2 (.int k) Qs)) : wpEs C X r (.cons (.int k) es) H Qs := q
theorem c_fld {j t a c xs i v} (g : (r[j]?).join = some (.ref t a)) (h : H t = some (a, .inst c xs)) (e : xs[i]? = some v) (q : Q v H) : wpE C X r (.op1 (.fld c i) (.v j)) H Q := e_v (C := C) (X := X) (Q := K1 (.fld c i) Q) g (o_fld (P := KV Q H) h e q)
theorem c_meth {f j t a c xs args} (g : (r[j]?).join = some (.ref t a)) (h : H t = some (a, .inst c xs)) (e : f.cls = some c) (q : wpEs C X r args H (KM2 C X f (.ref t a) Q)) : wpE C X r (.meth f (.v j) args) H Q := e_v (C := C) (X := X) (Q := KM1 C X f args r Q) g (isA_ref h e q)
theorem c_F1s {j t a c xs i x rest} (g : (r[j]?).join = some (.ref t a)) (h : H t = some (a, .inst c xs)) (e : i < xs.length) (q : wpSL C X R rest r (upd H t (some (a, .inst c (xs.set i x)))) N) : KF1 C X (.v j) c i r (KS C X R rest N) x H := e_v (C := C) (X := X) (Q := KF2 c i x r (KS C X R rest N)) g (o_setF (P := KH (KS C X R rest N) r) h e q)
theorem c_F1n {j t a c xs i x rest} (g : (r[j]?).join = some (.ref t a)) (h : H t = some (a, .inst c xs)) (e : i = xs.length) (q : wpSL C X R rest r (upd H t (some (a, .inst c (xs ++ [x])))) N) : KF1 C X (.v j) c i r (KS C X R rest N) x H := e_v (C := C) (X := X) (Q := KF2 c i x r (KS C X R rest N)) g (o_newF (P := KH (KS C X R rest N) r) h e q)
theorem c_It {a b c} (h : c = true) (q : wpSL C X R a r H N) : KI C X R a b r N (.bool c) H := b_t h q
theorem c_If {a b c} (h : c = false) (q : wpSL C X R b r H N) : KI C X R a b r N (.bool c) H := b_f h q
theorem c_At {b c} (h : c = true) (q : wpE C X r b H (KBl Q)) : KAnd C X b r Q (.bool c) H := b_t h q
theorem c_Af {b c} (h : c = false) (q : Q (.bool false) H) : KAnd C X b r Q (.bool c) H := b_f h q
theorem c_Ot {b c} (h : c = true) (q : Q (.bool true) H) : KOr C X b r Q (.bool c) H := b_t h q
theorem c_Of {b c} (h : c = false) (q : wpE C X r b H (KBl Q)) : KOr C X b r Q (.bool c) H := b_f h q
theorem c_Bl {b} (q : Q (.bool b) H) : KBl Q (.bool b) H := q
theorem c_1i {t a xs} (h : H t = some (a, .list xs)) (q : Q (.int xs.length) H) : K1 .len Q (.ref t a) H := o_len (P := KV Q H) h q
theorem c_ix {t a xs k v} (h : H t = some (a, .list xs)) (e : getAt xs k = some v) (q : Q v H) : K2b .idx (.ref t a) Q (.int k) H := o_idx (P := KV Q H) h e q
theorem c_ixL {xs k v} (e : getAt xs k = some v) (q : Q v H) : K2b .idx (.lst xs) Q (.int k) H := o_idxL (P := KV Q H) e q
theorem c_ixT {xs k v} (e : getAt xs k = some v) (q : Q v H) : K2b .idx (.tup xs) Q (.int k) H := o_idxT (P := KV Q H) e q
theorem c_2v {i o b x} (h : (r[i]?).join = some x) (q : wpE C X r b H (K2b o x Q)) : wpE C X r (.op2 o (.v i) b) H Q := e_v (C := C) (X := X) (Q := K2a C X b r o Q) h q
theorem c_2vi {i o x} {k : Int} (h : (r[i]?).join = some x) (q : K2b o x Q (.int k) H) : wpE C X r (.op2 o (.v i) (.int k)) H Q := c_2v (C := C) (X := X) h q
theorem c_2vw {i o x} {k : Word} (h : (r[i]?).join = some x) (q : K2b o x Q (.str k) H) : wpE C X r (.op2 o (.v i) (.word k)) H Q := c_2v (C := C) (X := X) h q
theorem c_2vv {i j o x y} (h : (r[i]?).join = some x) (g : (r[j]?).join = some y) (q : K2b o x Q y H) : wpE C X r (.op2 o (.v i) (.v j)) H Q := c_2v (C := C) (X := X) h (e_v (C := C) (X := X) g q)
theorem c_1v {i o x} (h : (r[i]?).join = some x) (q : K1 o Q x H) : wpE C X r (.op1 o (.v i)) H Q := e_v (C := C) (X := X) (Q := K1 o Q) h q
theorem c_2f {o b j t a c xs i v} (g : (r[j]?).join = some (.ref t a)) (h : H t = some (a, .inst c xs)) (e : xs[i]? = some v) (q : wpE C X r b H (K2b o v Q)) : wpE C X r (.op2 o (.op1 (.fld c i) (.v j)) b) H Q := c_fld (C := C) (X := X) (Q := K2a C X b r o Q) g h e q
theorem c_1f {o j t a c xs i v} (g : (r[j]?).join = some (.ref t a)) (h : H t = some (a, .inst c xs)) (e : xs[i]? = some v) (q : K1 o Q v H) : wpE C X r (.op1 o (.op1 (.fld c i) (.v j))) H Q := c_fld (C := C) (X := X) (Q := K1 o Q) g h e q
theorem c_call {f i es x} (h : (r[i]?).join = some x) (q : wpEs C X r es H (KEs2 x (KCl C X f Q))) : wpE C X r (.call f (.cons (.v i) es)) H Q := c_esv (C := C) (X := X) (Qs := KCl C X f Q) h q
theorem c_exC {f i es x rest} (h : (r[i]?).join = some x) (q : wpEs C X r es H (KEs2 x (KCl C X f (KX r (KS C X R rest N))))) : wpSL C X R (.cons (.ex (.call f (.cons (.v i) es))) rest) r H N := c_call (C := C) (X := X) h q
theorem c_asgC {j f i es x rest} (h : (r[i]?).join = some x) (q : wpEs C X r es H (KEs2 x (KCl C X f (KA j r (KS C X R rest N))))) : wpSL C X R (.cons (.asg j (.call f (.cons (.v i) es))) rest) r H N := c_call (C := C) (X := X) h q
theorem c_retv {i x rest} (h : (r[i]?).join = some x) (q : R x H) : wpSL C X R (.cons (.ret (.v i)) rest) r H N := e_v (C := C) (X := X) h q
theorem c_nil2C {f v w} (q : C f [w, v] H Q X) : wpEs C X r .nil H (KEs2 v (KEs2 w (KCl C X f Q))) := q
theorem c_nil3C {f v w u} (q : C f [u, w, v] H Q X) : wpEs C X r .nil H (KEs2 v (KEs2 w (KEs2 u (KCl C X f Q)))) := q
theorem c_nil4C {f v w u z} (q : C f [z, u, w, v] H Q X) : wpEs C X r .nil H (KEs2 v (KEs2 w (KEs2 u (KEs2 z (KCl C X f Q))))) := q
theorem c_nil2M {f o v w} (q : C f [o, w, v] H Q X) : wpEs C X r .nil H (KEs2 v (KEs2 w (KM2 C X f o Q))) := q
theorem c_nil0M {f o} (q : C f [o] H Q X) : wpEs C X r .nil H (KM2 C X f o Q) := q
theorem c_nil2 {v w} (q : Qs [w, v] H) : wpEs C X r .nil H (KEs2 v (KEs2 w Qs)) := q
theorem c_es2 {i o x es} {k : Int} (h : (r[i]?).join = some x) (q : K2b o x (KEs C X es r Qs) (.int k) H) : wpEs C X r (.cons (.op2 o (.v i) (.int k)) es) H Qs := c_2vi (C := C) (X := X) (Q := KEs C X es r Qs) h q
theorem c_Fz {xs} (h : xs.length ≤ lim) (q : Q (.lst xs) H) : KFz Q xs H := ⟨h, q⟩
theorem c_Tup {xs} (h : xs.length ≤ lim) (q : Q (.tup xs) H) : KTup Q xs H := ⟨h, q⟩
theorem c_IfS {a c rest} (h : c = false) (q : wpSL C X R rest r H N) : KI C X R a .nil r (KS C X R rest N) (.bool c) H := c_If h q
theorem c_HS {rest} (q : wpSL C X R rest r H N) : KH (KS C X R rest N) r H := q
theorem c_T {is x r' rest} (h : bindT r is x = some r') (q : wpSL C X R rest r' H N) : KT is r (KS C X R rest N) x H := optP_of h q
theorem c_W {is xs r' rest} (h : putAll r is xs = some r') (q : wpSL C X R rest r' H N) : KW is r (KS C X R rest N) xs H := optP_of h q
theorem c_2o {o x y z} (h : ev2 H o x y = some z) (q : Q z H) : K2b o x Q y H := optP_of (Q := KV Q H) h q
theorem c_1o {o x z} (h : ev1 H o x = some z) (q : Q z H) : K1 o Q x H := optP_of (Q := KV Q H) h q
end
theorem uuB : (∀ l, (iv l).length = l.length) ∧ (∀ (p : Prop) [Decidable p], (decide p = true) = p) ∧ (∀ (p : Prop) [Decidable p], (decide p = false) = ¬ p) ∧ (∀ b : Bool, ((!b) = true) = (b = false)) ∧ (∀ b : Bool, ((!b) = false) = (b = true)) :=
  ⟨iv_len, fun _ _ => by simp, fun _ _ => by simp, fun _ => by simp, fun _ => by simp⟩
local macro_rules | `(tactic| walk_at "uu_h") => `(tactic| first | rfl | assumption)
local macro_rules | `(tactic| walk_at "uu_o") => `(tactic| first | lia | omega)
local macro_rules | `(tactic| walk_at "uu_b") => `(tactic| first | rfl | exact decide_eq_true (by (walk_at "uu_o")) | exact decide_eq_false (by (walk_at "uu_o")) | (simp only [uuB, List.length_map, List.length_append, List.length_cons, List.length_nil]; first | done | (walk_at "uu_o")))
local macro_rules | `(tactic| walk_at "uu_l") => `(tactic| first | (simp [lim]; done) | (apply lim_big; simp [iv_len]; (walk_at "uu_o")))
open Lean in
def sideOf (c : Char) : MacroM (TSyntax `tactic) := if c = 'r' then `(tactic| rfl) else if c = 'h' then `(tactic| (walk_at "uu_h")) else if c = 's' then `(tactic| first | decide | (simp; done)) else if c = 'b' then `(tactic| (walk_at "uu_b")) else `(tactic| (walk_at "uu_l"))
open Lean in
def sidesOf (t : TSyntax `tactic) (cs : List Char) : MacroM (TSyntax `tactic) :=
  (cs.zip (List.range cs.length)).foldlM (fun t x => do
    let p ← sideOf x.1
    `(tactic| ($t:tactic; case $(mkIdent (.mkNum `a x.2)):ident => $p:tactic))) t
open Lean in
def altOf (sides n : String) : MacroM (TSyntax ``Parser.Tactic.tacticSeq) := do
  let i := mkIdent (.mkSimple n)
  let hs : List Term := (List.range sides.length).map fun k => ⟨mkNode ``Parser.Term.syntheticHole #[mkAtom "?", mkIdent (.mkNum `a k)]⟩
  let q ← `(?_)
  let t : Term := Syntax.mkApp i (hs ++ [q]).toArray
  let t ← if sides.isEmpty then `(tactic| with_reducible refine $t) else `(tactic| with_reducible refine' $t)
  let t ← sidesOf t sides.toList
  `(Parser.Tactic.tacticSeq| $t:tactic)
open Lean in
def altsOf (tbl : List (String × String)) : MacroM (List (TSyntax ``Parser.Tactic.tacticSeq)) :=
  (tbl.flatMap fun (sd, ns) => (ns.splitOn " ").map fun n => (sd, n)).mapM fun x => altOf x.1 x.2
open Lean in
def oneOf (tbl : List (String × String)) (more : List (TSyntax ``Parser.Tactic.tacticSeq)) : MacroM (TSyntax `tactic) := do
  let alts := ((← altsOf tbl) ++ more).toArray
  `(tactic| first $[| $alts]*)
def kTab : List (String × String) := [("", "k_S k_A k_1 k_2a k_2b k_V k_Es k_Es2 k_Cl k_M1 k_M2 k_X k_I k_F1 k_F2 k_H k_Bl k_Bo k_And k_Or k_R k_T k_W k_Fz k_L1 k_L2 k_L3 k_L4 k_Qs k_Wh k_Wn k_Fb k_Fn k_Fo k_Fo2 k_Ap1 k_Ap2 k_I1 k_I2 k_I3 k_D1 k_D2 k_D3 k_Sl1 k_Sl2 k_Sl3 k_Sl4 k_Sl5 k_Dp1 k_Dp2 k_3a k_3b k_3c k_Ie k_C1 k_C2 k_C3 k_Tup k_Th k_New k_NewF k_Co k_Co2 k_Rp1 k_Rp2 k_Rp3 k_Sc1 k_Sc2 k_Sc3 k_Sc4 k_Fm1 k_Fm2 k_Fm3 k_Up1 k_Up2 k_Up3 k_Rv k_Rv2 k_Cp k_Pop k_Try k_Ra")]
def uTab : List (String × String) := [("", "s_cons e_op2 e_op1 es_cons es_nil e_int s_asg s_ex s_ite e_call e_meth s_setF p_add p_sub p_lt p_le p_gt p_ge p_min p_max p_eqi p_nei p_len p_not s_ret s_nil for_nil e_none e_bool e_word e_glob e_edict e_op3 e_ite e_and e_or e_chain e_tup e_frz e_thw e_thwD e_new e_newF l_disp l_cat l_slc l_frm l_upt l_rev l_copy l_comp l_rep s_asgT s_asgW s_setI s_setD s_setS s_app s_pop0 s_dpop s_for' s_try s_raise"),
  ("r", "e_v"), ("hr", "o_fld o_newF isA_ref o_idx"), ("hs", "o_setF"), ("r", "isA_val o_idxL o_idxT"), ("b", "b_t b_f"), ("h", "o_items o_len isList"), ("r", "optP_of"), ("l", "lim_and")]
def cTab : List (String × String) := [("", "c_nilM c_nilC c_nil2C c_nil3C c_nil4C c_nil2M c_nil0M c_nil2 c_nil c_HS c_skip c_esi"), ("r", "c_exC c_asgC c_retv"), ("", "c_asg c_A c_ex c_X c_setF c_ite c_ret c_add c_sub c_lt c_le c_gt c_ge c_min c_max c_eqi c_nei c_len c_not c_Bl"),
  ("r", "c_esv c_es2 c_call"), ("rhr", "c_fld c_meth c_F1n c_2f c_1f"), ("rhs", "c_F1s"), ("rr", "c_2vv"), ("r", "c_2vi c_2vw c_2v c_1v"), ("b", "c_IfS c_It c_If c_At c_Af c_Ot c_Of"), ("l", "c_Fz c_Tup"), ("h", "c_1i"), ("hr", "c_ix"), ("r", "c_ixL c_ixT c_T c_W c_2o c_1o")]
local macro_rules | `(tactic| walk_at "uu_n") => `(tactic| ((fail_if_success (with_reducible refine $(Lean.mkIdent `b_any) ?_ ?_)); with_reducible refine $(Lean.mkIdent `b_out) ?_))
open Lean in
def uMore : MacroM (List (TSyntax ``Parser.Tactic.tacticSeq)) := return [← `(Parser.Tactic.tacticSeq| (walk_at "uu_n")), ← `(Parser.Tactic.tacticSeq| dsimp only)]
local macro_rules | `(tactic| walk_at "kk") => oneOf kTab []
local macro_rules | `(tactic| walk_at "uu_c") => do oneOf uTab (← uMore)
local macro_rules | `(tactic| walk_at "cc") => oneOf cTab []
local macro_rules | `(tactic| walk_at "uu") => do
  let k ← oneOf kTab []
  let u ← oneOf uTab (← uMore)
  `(tactic| ((repeat $k:tactic); $u:tactic; repeat $k:tactic))
local macro_rules | `(tactic| walk_at "uus") => do
  let a ← oneOf (cTab ++ kTab ++ uTab) (← uMore)
  `(tactic| repeat $a:tactic)
noncomputable def Keep (ts : List Tag) (H H' : St) : Prop := ∀ t, t ∉ ts → H' t = H t
theorem Keep.refl {ts : List Tag} {H : St} : Keep ts H H := fun _ _ => rfl
theorem Keep.trans {ts : List Tag} {H H' H'' : St} (a : Keep ts H H') (b : Keep ts H' H'') : Keep ts H H'' := fun t h => (b t h).trans (a t h)
theorem Keep.mono {ts ts' : List Tag} {H H' : St} (a : Keep ts H H') (h : ∀ t ∈ ts, t ∈ ts') : Keep ts' H H' := fun t q => a t fun z => q (h t z)
theorem Keep.upd {ts : List Tag} {H H' : St} {t : Tag} {x} (a : Keep ts H H') (h : t ∈ ts) : Keep ts H (upd H' t x) := fun t' q => by
  have z : t' ≠ t := by intro e; subst e; exact q h
  rw [upd_ne _ _ z]; exact a t' q
theorem anchor {H : St} {t : Tag} {x} (h : H t = x) : H = upd H t x := by
  funext t'
  by_cases e : t' = t
  · subst e; rw [upd_same, h]
  · rw [upd_ne _ _ e]
set_option backward.match.sparseCases false
noncomputable def gapV (c : Nat) (pre gap : List Int) : O := .inst .gap [.int 8, .ref .cells c, .int pre.length, .int (pre.length + gap.length)]
noncomputable def cellsV (pre gap post : List Int) : O := .list (iv pre ++ (iv gap ++ iv post))
structure GapAt (H : St) (t c : Nat) (pre gap post : List Int) : Prop where
  text : H .text = some (t, gapV c pre gap)
  cells : H .cells = some (c, cellsV pre gap post)
  small : pre.length + gap.length + post.length ≤ 100000
noncomputable def GapOk (H : St) (t : Nat) (T : List Int) : Prop := ∃ c pre gap post, GapAt H t c pre gap post ∧ T = pre ++ post
theorem GapAt.keep {H H' : St} {t c : Nat} {pre gap post : List Int} {ts : List Tag} (a : GapAt H t c pre gap post) (k : Keep ts H H') (h1 : Tag.text ∉ ts) (h2 : Tag.cells ∉ ts) : GapAt H' t c pre gap post :=
  ⟨(k _ h1).trans a.text, (k _ h2).trans a.cells, a.small⟩
theorem GapOk.keep {H H' : St} {t : Nat} {T : List Int} {ts : List Tag} (a : GapOk H t T) (k : Keep ts H H') (h1 : Tag.text ∉ ts) (h2 : Tag.cells ∉ ts) : GapOk H' t T := by
  refine @bc _ fun k_ => ?_
  obtain ⟨c, pre, gap, post, h, e⟩ := a
  apply k_; clear k_
  exact ⟨c, pre, gap, post, h.keep k h1 h2, e⟩
noncomputable abbrev gtags : List Tag := [.text, .cells]
theorem GapAt.anchor {H : St} {t c : Nat} {pre gap post : List Int} (a : GapAt H t c pre gap post) : ∃ H0, H = upd (upd H0 .text (some (t, gapV c pre gap))) .cells (some (c, cellsV pre gap post)) :=
  ⟨H, by rw [← Mine.anchor a.text, ← Mine.anchor a.cells]⟩
theorem cellsV_len (pre gap post : List Int) : (iv pre ++ (iv gap ++ iv post)).length = pre.length + gap.length + post.length := by simp [iv_len]; (first | lia | omega)
section
variable {H : St} {Q : V → St → Prop} {X : St → Prop} {t c : Nat} {T pre gap post : List Int}
theorem gapSize_s (g : GapOk H t T) (h : Q (.int T.length) H) {m : Nat} : callAt defs (m + 1) .gapSize [.ref .text t] H Q X := by
  refine @bc _ fun k_ => ?_
  obtain ⟨c, pre, gap, post, g, e0_⟩ := g
  apply k_; clear k_
  subst e0_
  have e := g.text; have e2 := g.cells
  unfold gapV at e; unfold cellsV at e2
  refine call_open rfl ?_
  show wpSL _ _ _ ir_gapSize [some (.ref .text t)] _ _
  unfold ir_gapSize
  (walk_at "uus")
  rw [cellsV_len]
  rw [show ((pre.length + gap.length + post.length : Nat) : Int) - (pre.length + gap.length) + pre.length = ((pre ++ post).length : Nat) by simp; (first | lia | omega)]
  exact h
theorem gapCodes_s (g : GapOk H t T) {a b : Nat} {x y : Int} (hx : x = a) (hy : y = b) (hab : a ≤ b) (hb : b ≤ T.length) (h : Q (.lst (iv ((T.take b).drop a))) H) {m : Nat} : callAt defs (m + 1) .gapCodes [.ref .text t, .int x, .int y] H Q X := by
  subst hx hy
  refine @bc _ fun k_ => ?_
  obtain ⟨c, pre, gap, post, g, e0_⟩ := g
  apply k_; clear k_
  subst e0_
  have e := g.text; have e2 := g.cells; have sm := g.small
  unfold gapV at e; unfold cellsV at e2
  simp only [List.length_append] at hb
  refine call_open rfl ?_
  show wpSL _ _ _ ir_gapCodes [some (.ref .text t), some (.int a), some (.int b), .none] _ _
  unfold ir_gapCodes
  (walk_at "uus")
  refine b_two (fun c1 => ?_) (fun c1 => ?_)
  · (walk_at "uus")
    have q : pySlice (iv pre ++ (iv gap ++ iv post)) a b = iv (((pre ++ post).take b).drop a) := by
      rw [pySlice_of (a := a) (b := b) rfl rfl (by rw [cellsV_len]; (first | lia | omega)) (by rw [cellsV_len]; (first | lia | omega)), List.take_append_of_le_length (by rw [iv_len]; (first | lia | omega)), List.take_append_of_le_length (by (first | lia | omega)), iv_take, iv_drop]
    rw [q]
    refine ⟨?_, h⟩
    rw [iv_len]; apply lim_big; simp; (first | lia | omega)
  · (walk_at "uus")
    refine b_two (fun c2 => ?_) (fun c2 => ?_)
    · (walk_at "uus")
      have q : pySlice (iv pre ++ (iv gap ++ iv post)) (a + (pre.length + gap.length - pre.length)) (b + (pre.length + gap.length - pre.length)) = iv (((pre ++ post).take b).drop a) := by
        rw [pySlice_of (a := a + gap.length) (b := b + gap.length) (by (first | lia | omega)) (by (first | lia | omega)) (by rw [cellsV_len]; (first | lia | omega)) (by rw [cellsV_len]; (first | lia | omega))]
        rw [← iv_app, ← iv_app, iv_take, iv_drop]
        congr 1
        obtain ⟨a', rfl⟩ : ∃ k, a = pre.length + k := ⟨a - pre.length, by (first | lia | omega)⟩
        obtain ⟨b', rfl⟩ : ∃ k, b = pre.length + k := ⟨b - pre.length, by (first | lia | omega)⟩
        rw [take_app (A := pre) (k := gap.length + b') (by (first | lia | omega)), take_app (A := gap) rfl, drop_app (A := pre) (k := gap.length + a') (by (first | lia | omega)), drop_app (A := gap) rfl, take_app (A := pre) rfl, drop_app (A := pre) rfl]
      rw [q]
      refine ⟨?_, h⟩
      rw [iv_len]; apply lim_big; simp; (first | lia | omega)
    · (walk_at "uus")
      have q1 : pySlice (iv pre ++ (iv gap ++ iv post)) a pre.length = iv (pre.drop a) := by
        rw [pySlice_of (a := a) (b := pre.length) rfl rfl (by rw [cellsV_len]; (first | lia | omega)) (by rw [cellsV_len]; (first | lia | omega)), ← iv_app, ← iv_app, iv_take, iv_drop, List.take_left']
        rfl
      have q2 : pySlice (iv pre ++ (iv gap ++ iv post)) (pre.length + gap.length) (b + (pre.length + gap.length - pre.length)) = iv (post.take (b - pre.length)) := by
        rw [pySlice_of (a := pre.length + gap.length) (b := b + gap.length) (by (first | lia | omega)) (by (first | lia | omega)) (by rw [cellsV_len]; (first | lia | omega)) (by rw [cellsV_len]; (first | lia | omega)), ← iv_app, ← iv_app, iv_take, iv_drop]
        obtain ⟨b', rfl⟩ : ∃ k, b = pre.length + k := ⟨b - pre.length, by (first | lia | omega)⟩
        rw [take_app (A := pre) (k := gap.length + b') (by (first | lia | omega)), take_app (A := gap) rfl, drop_app (A := pre) rfl, drop_app (A := gap) (k := 0) (by (first | lia | omega))]
        simp
      rw [q1]
      refine ⟨?_, ?_⟩
      · rw [iv_len]; apply lim_big; simp; (first | lia | omega)
      (walk_at "uus")
      rw [q2]
      refine ⟨?_, ?_⟩
      · rw [iv_len]; apply lim_big; simp; (first | lia | omega)
      (walk_at "uus")
      have q3 : iv (((pre ++ post).take b).drop a) = iv (pre.drop a) ++ iv (post.take (b - pre.length)) := by
        rw [← iv_app, List.take_append, List.drop_append, List.take_of_length_le (by (first | lia | omega))]
        congr 2
        rw [show a - pre.length = 0 by (first | lia | omega)]; rfl
      rw [← q3]
      exact h
theorem gapMoveGap_s (g : GapAt H t c pre gap post) {at_ : Nat} {x : Int} (hx : x = at_) (ha : at_ ≤ pre.length + post.length)
    (h : ∀ H' gap', GapAt H' t c ((pre ++ post).take at_) gap' ((pre ++ post).drop at_) → gap'.length = gap.length → Keep gtags H H' → Q .none H') {m : Nat} : callAt defs (m + 1) .gapMoveGap [.ref .text t, .int x] H Q X := by
  subst hx
  have sm := g.small
  obtain ⟨H, rfl⟩ := g.anchor
  unfold gapV cellsV at h ⊢
  refine call_open rfl ?_
  show wpSL _ _ _ ir_gapMoveGap [some (.ref .text t), some (.int at_), .none] _ _
  unfold ir_gapMoveGap
  (walk_at "uus")
  refine b_two (fun c1 => ?_) (fun c1 => ?_)
  · obtain ⟨p1, p2, rfl, hp⟩ : ∃ p1 p2, pre = p1 ++ p2 ∧ p1.length = at_ := ⟨pre.take at_, pre.drop at_, by simp, by simp; (first | lia | omega)⟩
    subst hp
    simp only [List.length_append] at sm
    (walk_at "uus")
    have q : pySlice (iv (p1 ++ p2) ++ (iv gap ++ iv post)) p1.length (p1 ++ p2).length = iv p2 := by
      rw [iv_app, List.append_assoc, slc_mid (by simp [iv_len]) (by simp [iv_len])]
    rw [q]
    refine ⟨?_, ?_⟩
    · rw [iv_len]; apply lim_big; (first | lia | omega)
    (walk_at "uus")
    refine o_setS rfl ?_ ?_
    · rw [cellsV_len, iv_len]; apply lim_big; simp; (first | lia | omega)
    have q2 : setSlice (iv (p1 ++ p2) ++ (iv gap ++ iv post)) ((p1 ++ p2).length + gap.length - (iv p2).length) ((p1 ++ p2).length + gap.length) (iv p2) = iv p1 ++ (iv ((p2 ++ gap).take gap.length) ++ iv (p2 ++ post)) := by
      have e : iv (p1 ++ p2) ++ (iv gap ++ iv post) = iv (p1 ++ (p2 ++ gap).take gap.length) ++ (iv ((p2 ++ gap).drop gap.length) ++ iv post) := by
        rw [← iv_app, ← iv_app, ← iv_app, ← iv_app]
        congr 1
        simp only [List.append_assoc]
        rw [← List.append_assoc (List.take _ _), List.take_append_drop, List.append_assoc]
      rw [e, set_mid (by simp [iv_len]; (first | lia | omega)) (by simp [iv_len]; (first | lia | omega))]
      simp [iv_app]
    rw [q2]
    (walk_at "uus")
    refine h _ ((p2 ++ gap).take gap.length) ⟨?_, ?_, ?_⟩ (by simp) ?_
    · simp only [List.set]
      unfold gapV
      rw [upd_same]
      simp [iv_len]
      (first | lia | omega)
    · show some _ = some _
      unfold cellsV
      simp
    · simp; (first | lia | omega)
    · exact (((Keep.refl.upd (by decide)).upd (by decide)).upd (by decide))
  · obtain ⟨k, rfl⟩ : ∃ k, at_ = pre.length + k := ⟨at_ - pre.length, by (first | lia | omega)⟩
    obtain ⟨p1, p2, rfl, hp⟩ : ∃ p1 p2, post = p1 ++ p2 ∧ p1.length = k := ⟨post.take k, post.drop k, by simp, by simp; (first | lia | omega)⟩
    subst hp
    simp only [List.length_append] at sm
    (walk_at "uus")
    have q : pySlice (iv pre ++ (iv gap ++ iv (p1 ++ p2))) (pre.length + gap.length) (pre.length + gap.length + ((pre.length + p1.length : Nat) : Int) - pre.length) = iv p1 := by
      rw [iv_app, ← List.append_assoc, slc_mid (by simp [iv_len]) (by simp [iv_len]; (first | lia | omega))]
    rw [q]
    refine ⟨?_, ?_⟩
    · rw [iv_len]; apply lim_big; (first | lia | omega)
    (walk_at "uus")
    refine o_setS rfl ?_ ?_
    · rw [cellsV_len, iv_len]; apply lim_big; simp; (first | lia | omega)
    have q2 : setSlice (iv pre ++ (iv gap ++ iv (p1 ++ p2))) pre.length (pre.length + (iv p1).length) (iv p1) = iv (pre ++ p1) ++ (iv ((gap ++ p1).drop p1.length) ++ iv p2) := by
      have e : iv pre ++ (iv gap ++ iv (p1 ++ p2)) = iv pre ++ (iv ((gap ++ p1).take p1.length) ++ (iv ((gap ++ p1).drop p1.length) ++ iv p2)) := by
        rw [← iv_app, ← iv_app, ← iv_app, ← iv_app, ← iv_app]
        congr 2
        rw [← List.append_assoc, ← List.append_assoc, List.take_append_drop]
      rw [e, set_mid (by simp [iv_len]) (by simp [iv_len])]
      simp [iv_app]
    rw [q2]
    (walk_at "uus")
    have t1 : (pre ++ (p1 ++ p2)).take (pre.length + p1.length) = pre ++ p1 := by
      rw [take_app (A := pre) rfl, take_app (A := p1) (k := 0) (by (first | lia | omega))]; simp
    have t2 : (pre ++ (p1 ++ p2)).drop (pre.length + p1.length) = p2 := by
      rw [drop_app (A := pre) rfl, drop_app (A := p1) (k := 0) (by (first | lia | omega))]; simp
    rw [t1, t2] at h
    refine h _ ((gap ++ p1).drop p1.length) ⟨?_, ?_, ?_⟩ (by simp) ?_
    · simp only [List.set]
      unfold gapV
      rw [upd_same]
      simp [iv_len]
      (first | lia | omega)
    · show some _ = some _
      rfl
    · simp; (first | lia | omega)
    · exact (((Keep.refl.upd (by decide)).upd (by decide)).upd (by decide))
theorem gapWidenGap_s (g : GapAt H t c pre gap post) {n : Nat} {x : Int} (hx : x = n) (hn : pre.length + post.length + n ≤ 99000)
    (h : ∀ H' gap', GapAt H' t c pre gap' post → n ≤ gap'.length → Keep gtags H H' → Q .none H') {m : Nat} : callAt defs (m + 1) .gapWidenGap [.ref .text t, .int x] H Q X := by
  subst hx
  have sm := g.small
  obtain ⟨H, rfl⟩ := g.anchor
  unfold gapV cellsV at h ⊢
  refine call_open rfl ?_
  show wpSL _ _ _ ir_gapWidenGap [some (.ref .text t), some (.int n), .none] _ _
  unfold ir_gapWidenGap
  (walk_at "uus")
  refine b_two (fun c1 => ?_) (fun c1 => ?_)
  · (walk_at "uus")
    refine ⟨by (first | lia | omega), ?_⟩
    refine ⟨?_, ?_⟩
    · unfold lim; simp; (first | lia | omega)
    (walk_at "uus")
    refine o_setS rfl ?_ ?_
    · rw [cellsV_len]; simp; apply lim_big; (first | lia | omega)
    have q2 : ∀ D, setSlice (iv pre ++ (iv gap ++ iv post)) (pre.length + gap.length) (pre.length + gap.length) D = iv pre ++ ((iv gap ++ D) ++ iv post) := by
      intro D
      rw [← List.append_assoc]
      have := set_mid (A := iv pre ++ iv gap) (B := []) (C := iv post) (D := D) (lo := pre.length + gap.length) (hi := pre.length + gap.length) (by simp [iv_len]) (by simp [iv_len])
      simpa using this
    rw [q2]
    (walk_at "uus")
    have e0 : List.replicate ((n : Int) - (pre.length + gap.length - pre.length) + 8).toNat (V.int 0) = iv (List.replicate (n - gap.length + 8) 0) := by
      rw [show ((n : Int) - (pre.length + gap.length - pre.length) + 8).toNat = n - gap.length + 8 by (first | lia | omega)]
      simp [iv]
    rw [e0]
    refine h _ (gap ++ List.replicate (n - gap.length + 8) 0) ⟨?_, ?_, ?_⟩ (by simp; (first | lia | omega)) ?_
    · simp only [List.set]
      unfold gapV
      rw [upd_same]
      simp
      (first | lia | omega)
    · show some _ = some _
      unfold cellsV
      rw [iv_app]
    · simp; (first | lia | omega)
    · exact ((Keep.refl.upd (by decide)).upd (by decide))
  · (walk_at "uus")
    exact h _ gap ⟨rfl, rfl, sm⟩ (by (first | lia | omega)) Keep.refl
theorem gapInsert_s (g : GapOk H t T) {p : Nat} {cs : List Int} {x : Int} (hx : x = p) (hp : p ≤ T.length) (hn : T.length + cs.length ≤ 99000)
    (h : ∀ H', GapOk H' t (T.take p ++ (cs ++ T.drop p)) → Keep gtags H H' → Q .none H') {m : Nat} : callAt defs (m + 2) .gapInsert [.ref .text t, .int x, .lst (iv cs)] H Q X := by
  subst hx
  refine @bc _ fun k_ => ?_
  obtain ⟨c, pre, gap, post, g, e0_⟩ := g
  apply k_; clear k_
  subst e0_
  have gt := g.text
  unfold gapV at gt
  simp only [List.length_append] at hp hn
  refine call_open rfl ?_
  show wpSL _ _ _ ir_gapInsert [some (.ref .text t), some (.int p), some (.lst (iv cs))] _ _
  unfold ir_gapInsert
  (walk_at "uus")
  refine gapWidenGap_s g (n := cs.length) (by rw [iv_len]) (by (first | lia | omega)) fun H1 gap1 g1 hg k1 => ?_
  have gt1 := g1.text
  unfold gapV at gt1
  (walk_at "uus")
  refine gapMoveGap_s g1 (at_ := p) rfl hp fun H2 gap2 g2 hg2 k2 => ?_
  have s2 := g2.small
  obtain ⟨gx, gy, rfl, hx⟩ : ∃ gx gy, gap2 = gx ++ gy ∧ gx.length = cs.length := ⟨gap2.take cs.length, gap2.drop cs.length, by simp, by simp; (first | lia | omega)⟩
  have k3 := k1.trans k2
  have gt2 := g2.text
  have gt3 := g2.cells
  unfold cellsV at gt3
  (walk_at "uus")
  have hl : ((pre ++ post).take p).length = p := by simp; (first | lia | omega)
  refine o_setS gt3 ?_ ?_
  · rw [cellsV_len, iv_len]; apply lim_big; (first | lia | omega)
  have q2 : setSlice (iv ((pre ++ post).take p) ++ (iv (gx ++ gy) ++ iv ((pre ++ post).drop p))) p (p + (iv cs).length) (iv cs) = iv ((pre ++ post).take p ++ cs) ++ (iv gy ++ iv ((pre ++ post).drop p)) := by
    rw [iv_app gx gy, List.append_assoc (iv gx), set_mid (by simp only [iv_len]; (first | lia | omega)) (by simp only [iv_len]; (first | lia | omega))]
    simp [iv_app]
  rw [q2]
  have gt4 := (upd_ne H2 (t := .cells) (some (c, .list (iv ((pre ++ post).take p ++ cs) ++ (iv gy ++ iv ((pre ++ post).drop p))))) (show Tag.text ≠ Tag.cells by decide)).trans gt2
  (walk_at "uus")
  refine h _ ⟨c, (pre ++ post).take p ++ cs, gy, (pre ++ post).drop p, ⟨?_, ?_, ?_⟩, by simp⟩ ?_
  · rw [upd_same]
    simp only [List.set]
    unfold gapV
    simp [iv_len]
    (first | lia | omega)
  · rw [upd_ne _ _ (by decide), upd_same]; rfl
  · simp only [List.length_append] at s2 ⊢; (first | lia | omega)
  · exact ((k3.upd (by decide)).upd (by decide))
theorem gapDelete_s (g : GapOk H t T) {a b : Nat} {x y : Int} (hx : x = a) (hy : y = b) (hab : a ≤ b) (hb : b ≤ T.length)
    (h : ∀ H', GapOk H' t (T.take a ++ T.drop b) → Keep gtags H H' → Q (.lst (iv ((T.take b).drop a))) H') {m : Nat} : callAt defs (m + 2) .gapDelete [.ref .text t, .int x, .int y] H Q X := by
  subst hx hy
  refine @bc _ fun k_ => ?_
  obtain ⟨c, pre, gap, post, g, e0_⟩ := g
  apply k_; clear k_
  subst e0_
  simp only [List.length_append] at hb
  refine call_open rfl ?_
  show wpSL _ _ _ ir_gapDelete [some (.ref .text t), some (.int a), some (.int b), .none] _ _
  unfold ir_gapDelete
  have gt := g.text
  unfold gapV at gt
  (walk_at "uus")
  refine gapCodes_s ⟨c, pre, gap, post, g, rfl⟩ (a := a) (b := b) rfl rfl hab (by simpa using hb) ?_
  have fin : ∀ H1 pre1 gap1 post1, GapAt H1 t c pre1 gap1 post1 → pre1 ++ post1 = pre ++ post → Keep gtags H H1 → a ≤ pre1.length → pre1.length ≤ b →
      wpSL (callAt defs (m + 1)) X Q (.cons (.setF (.v 0) .gap 3 (.op2 .sub (.op2 .add (.op1 (.fld .gap 3) (.v 0)) (.v 2)) (.op1 (.fld .gap 2) (.v 0)))) (.cons (.setF (.v 0) .gap 2 (.v 1)) (.cons (.ret (.v 3)) .nil)))
        [some (.ref .text t), some (.int a), some (.int b), some (.lst (iv (((pre ++ post).take b).drop a)))] H1 fun _ H => Q .none H := by
    intro H1 pre1 gap1 post1 g1 e1 k1 ha1 hb1
    have gt1 := g1.text
    have gc1 := g1.cells
    have sm := g1.small
    have hl : pre1.length + post1.length = pre.length + post.length := by simpa using congrArg List.length e1
    unfold gapV at gt1
    unfold cellsV at gc1
    (walk_at "uus")
    refine h _ ⟨c, pre1.take a, pre1.drop a ++ (gap1 ++ post1.take (b - pre1.length)), post1.drop (b - pre1.length), ⟨?_, ?_, ?_⟩, ?_⟩ ?_
    · rw [upd_same]
      simp only [List.set]
      unfold gapV
      simp
      (first | lia | omega)
    · rw [upd_ne _ _ (by decide), upd_ne _ _ (by decide), gc1]
      unfold cellsV
      have : iv pre1 ++ (iv gap1 ++ iv post1) = iv (pre1.take a) ++ (iv (pre1.drop a ++ (gap1 ++ post1.take (b - pre1.length))) ++ iv (post1.drop (b - pre1.length))) := by
        simp only [← iv_app, List.append_assoc, List.take_append_drop]
        rw [← List.append_assoc (pre1.take a), List.take_append_drop]
      rw [this]
    · simp; (first | lia | omega)
    · rw [← e1, List.take_append_of_le_length ha1]
      congr 1
      rw [drop_app (A := pre1) (k := b - pre1.length) (by (first | lia | omega))]
    · exact ((k1.upd (by decide)).upd (by decide))
  (walk_at "uus")
  refine b_two (fun c1 => ?_) (fun c1 => ?_)
  · (walk_at "uus")
    refine gapMoveGap_s g (at_ := b) rfl hb fun H1 gap1 g1 _ k1 => ?_
    have gt1 := g1.text
    unfold gapV at gt1
    have hl : ((pre ++ post).take b).length = b := by simp; (first | lia | omega)
    iterate 10 (walk_at "uu")
    exact fin H1 _ _ _ g1 (by simp) k1 (by (first | lia | omega)) (by (first | lia | omega))
  · (walk_at "uus")
    refine b_two (fun c2 => ?_) (fun c2 => ?_)
    · (walk_at "uus")
      refine gapMoveGap_s g (at_ := a) rfl (by (first | lia | omega)) fun H1 gap1 g1 _ k1 => ?_
      have hl : ((pre ++ post).take a).length = a := by simp; (first | lia | omega)
      exact fin H1 _ _ _ g1 (by simp) k1 (by (first | lia | omega)) (by (first | lia | omega))
    · (walk_at "uu")
      exact fin H _ _ _ g rfl Keep.refl (by (first | lia | omega)) (by (first | lia | omega))
end
set_option backward.match.sparseCases false
inductive Row | ins (p n : Nat) | del (p : Nat) (cs : List Int) (b : Bool) | bnd
noncomputable def pieceV (cs : List Int) : V := .inst .piece [.lst (iv cs), .lst []]
noncomputable def rowV : Row → V
  | .ins p n => .tup [.str .insert, .int (p + 1), .int (p + 1 + n)]
  | .del p cs b => .tup [.str .delete, .int (p + 1), pieceV cs, .bool b]
  | .bnd => .tup [.str .boundary]
noncomputable def isB : Row → Bool
  | .bnd => true
  | _ => false
noncomputable def atB (rows : List Row) : Bool := match rows.getLast? with
  | some a => isB a
  | .none => true
noncomputable def noteIns (rows : List Row) (p n : Nat) : List Row := match rows.getLast? with
  | some (.ins q k) => if q + k = p then rows.dropLast ++ [.ins q (k + n)] else rows ++ [.ins p n]
  | _ => rows ++ [.ins p n]
noncomputable abbrev bufV (t : Nat) (pt zv tk ct : Int) (undo : V) : O := .inst .buffer [.int 1, .str .a, .ref .text t, .inst .markers [.edict], .int pt, .int 1, .int zv, .none, .bool true, .bool false, .int tk, .int ct, .int 1, .lst [], undo, .none, .none, .none, .none, .none]
noncomputable abbrev ulV (r : Nat) : O := .inst .ulist [.ref .rows r, .int 0, .bool true, .none, .none]
noncomputable abbrev rowsV (rows : List Row) : O := .list (rows.map rowV)
theorem getAt_last {l : List V} {a : V} : getAt (l ++ [a]) (-1) = some a := by
  unfold getAt
  rw [if_neg (by decide), if_pos (by simp; (first | lia | omega)), show (-1 + ((l ++ [a]).length : Int)).toNat = l.length by simp; (first | lia | omega)]
  simp
theorem getAt_nat {l : List V} {k : Int} {n : Nat} (h : k = n) : getAt l k = l[n]? := by
  subst h
  unfold getAt
  rw [if_pos (by (first | lia | omega))]; rfl
theorem eq_bnd {H : St} (a : Row) {P : V → Prop} (q : P (.bool (isB a))) : optP (ev2 H .eq (rowV a) (globV .boundary)) P := by
  cases a <;> exact q
theorem ne_bnd {H : St} (a : Row) {P : V → Prop} (q : P (.bool (!isB a))) : optP (ev2 H .ne (rowV a) (globV .boundary)) P := by
  cases a <;> exact q
section
variable {H : St} {Q : V → St → Prop} {X : St → Prop} {b u t r : Nat} {pt zv tk ct : Int} {un : V} {T : List Int} {rows : List Row}
theorem needWritable_s (hb : H .buf = some (b, bufV t pt zv tk ct un)) (h : Q .none H) {m : Nat} : callAt defs (m + 1) .needWritable [.ref .buf b] H Q X := by
  refine call_open rfl ?_
  show wpSL _ _ _ ir_needWritable [some (.ref .buf b)] _ _
  unfold ir_needWritable
  (walk_at "uus")
  exact h
theorem bufSize_s (hb : H .buf = some (b, bufV t pt zv tk ct un)) (g : GapOk H t T) (h : Q (.int T.length) H) {m : Nat} : callAt defs (m + 2) .bufSize [.ref .buf b] H Q X := by
  refine call_open rfl ?_
  show wpSL _ _ _ ir_bufSize [some (.ref .buf b)] _ _
  unfold ir_bufSize
  refine @bc _ fun k_ => ?_
  obtain ⟨c, pre, gap, post, g', e⟩ := id g
  apply k_; clear k_
  have gt := g'.text
  unfold gapV at gt
  (walk_at "uus")
  exact gapSize_s g h
theorem bufCodes_s (hb : H .buf = some (b, bufV t pt zv tk ct un)) (g : GapOk H t T) {p q : Nat} {x y : Int} (hx : x = p + 1) (hy : y = q + 1) (hpq : p ≤ q) (hq : q ≤ T.length) (h : Q (.lst (iv ((T.take q).drop p))) H) {m : Nat} : callAt defs (m + 2) .bufCodes [.ref .buf b, .int x, .int y] H Q X := by
  refine call_open rfl ?_
  show wpSL _ _ _ ir_bufCodes [some (.ref .buf b), some (.int x), some (.int y)] _ _
  unfold ir_bufCodes
  refine @bc _ fun k_ => ?_
  obtain ⟨c, pre, gap, post, g', e⟩ := id g
  apply k_; clear k_
  have gt := g'.text
  unfold gapV at gt
  (walk_at "uus")
  exact gapCodes_s g (by (first | lia | omega)) (by (first | lia | omega)) hpq hq h
theorem needRoom_s (hb : H .buf = some (b, bufV t pt zv tk ct un)) (g : GapOk H t T) {n : Int} (hn : T.length + n ≤ 100000) (h : Q .none H) {m : Nat} : callAt defs (m + 3) .needRoom [.ref .buf b, .int n] H Q X := by
  refine call_open rfl ?_
  show wpSL _ _ _ ir_needRoom [some (.ref .buf b), some (.int n)] _ _
  unfold ir_needRoom
  (walk_at "uus")
  refine bufSize_s hb g ?_
  (walk_at "uus")
  exact h
theorem reached_s (hb : H .buf = some (b, bufV t pt zv tk ct un)) {x y : Int} (hx : 1 ≤ x) (hxy : x ≤ y) (hy : y ≤ zv) (h : Q (.tup [.int x, .int y]) H) {m : Nat} : callAt defs (m + 1) .reached [.ref .buf b, .int x, .int y] H Q X := by
  refine call_open rfl ?_
  show wpSL _ _ _ ir_reached [some (.ref .buf b), some (.int x), some (.int y), .none, .none] _ _
  unfold ir_reached
  (walk_at "uus")
  rw [Int.min_eq_left hxy, Int.max_eq_right hxy]
  exact h
theorem tellAhead_s (hb : H .buf = some (b, bufV t pt zv tk ct un)) {x y : V} (h : Q .none H) {m : Nat} : callAt defs (m + 1) .tellAhead [.ref .buf b, x, y] H Q X := by
  refine call_open rfl ?_
  show wpSL _ _ _ ir_tellAhead [some (.ref .buf b), some x, some y, .none] _ _
  unfold ir_tellAhead
  (walk_at "uus")
  exact h
theorem hungOut_s (hb : H .buf = some (b, bufV t pt zv tk ct un)) {x y : V} (h : Q .none H) {m : Nat} : callAt defs (m + 1) .hungOut [.ref .buf b, x, y] H Q X := by
  refine call_open rfl ?_
  show wpSL _ _ _ ir_hungOut [some (.ref .buf b), some x, some y] _ _
  unfold ir_hungOut
  (walk_at "uus")
  exact h
theorem hungIn_s (hb : H .buf = some (b, bufV t pt zv tk ct un)) {x y z : V} (h : Q .none H) {m : Nat} : callAt defs (m + 1) .hungIn [.ref .buf b, x, y, z] H Q X := by
  refine call_open rfl ?_
  show wpSL _ _ _ ir_hungIn [some (.ref .buf b), some x, some y, some z] _ _
  unfold ir_hungIn
  (walk_at "uus")
  exact h
theorem mkNumbers_s (h : Q (.lst []) H) {m : Nat} : callAt defs (m + 1) .mkNumbers [.inst .markers [.edict]] H Q X := by
  refine call_open rfl ?_
  show wpSL _ _ _ ir_mkNumbers [some (.inst .markers [.edict])] _ _
  (walk_at "uus")
  exact h
theorem mkWithin_s {x y : V} (h : Q (.lst []) H) {m : Nat} : callAt defs (m + 2) .mkWithin [.inst .markers [.edict], x, y] H Q X := by
  refine call_open rfl ?_
  show wpSL _ _ _ ir_mkWithin [some (.inst .markers [.edict]), some x, some y, .none, .none] _ _
  unfold ir_mkWithin
  (walk_at "uus")
  refine mkNumbers_s ?_
  (walk_at "uus")
  exact h
theorem mkInserted_s {x y z : V} (h : Q .none H) {m : Nat} : callAt defs (m + 2) .mkInserted [.inst .markers [.edict], x, y, z] H Q X := by
  refine call_open rfl ?_
  show wpSL _ _ _ ir_mkInserted [some (.inst .markers [.edict]), some x, some y, some z, .none, .none] _ _
  unfold ir_mkInserted
  (walk_at "uus")
  refine mkNumbers_s ?_
  (walk_at "uus")
  exact h
theorem mkDeleted_s {x y : V} (h : Q .none H) {m : Nat} : callAt defs (m + 2) .mkDeleted [.inst .markers [.edict], x, y] H Q X := by
  refine call_open rfl ?_
  show wpSL _ _ _ ir_mkDeleted [some (.inst .markers [.edict]), some x, some y, .none, .none] _ _
  unfold ir_mkDeleted
  (walk_at "uus")
  refine mkNumbers_s ?_
  (walk_at "uus")
  exact h
theorem bufIsModified_s (hb : H .buf = some (b, bufV t pt zv tk ct un)) (ht : 2 ≤ tk) (h : Q (.bool true) H) {m : Nat} : callAt defs (m + 1) .bufIsModified [.ref .buf b] H Q X := by
  refine call_open rfl ?_
  show wpSL _ _ _ ir_bufIsModified [some (.ref .buf b)] _ _
  unfold ir_bufIsModified
  (walk_at "uus")
  rw [decide_eq_true (by (first | lia | omega) : (1 : Int) < tk)]
  exact h
theorem bufTouch_s (hb : H .buf = some (b, bufV t pt zv tk ct un)) (h : Q .none (upd H .buf (some (b, bufV t pt zv (tk + 1) (tk + 1) un)))) {m : Nat} : callAt defs (m + 1) .bufTouch [.ref .buf b, .bool true] H Q X := by
  refine call_open rfl ?_
  show wpSL _ _ _ ir_bufTouch [some (.ref .buf b), some (.bool true)] _ _
  unfold ir_bufTouch
  (walk_at "uus")
  simp only [upd_upd, List.set]
  exact h
theorem tellBehind_s (hb : H .buf = some (b, bufV t pt zv tk ct un)) {x y z : V} (h : Q .none (upd H .buf (some (b, bufV t pt zv (tk + 1) (tk + 1) un)))) {m : Nat} : callAt defs (m + 2) .tellBehind [.ref .buf b, x, y, z] H Q X := by
  refine call_open rfl ?_
  show wpSL _ _ _ ir_tellBehind [some (.ref .buf b), some x, some y, some z, .none] _ _
  unfold ir_tellBehind
  (walk_at "uus")
  refine bufTouch_s hb ?_
  (walk_at "uus")
  exact h
theorem bufGoto_s (hb : H .buf = some (b, bufV t pt zv tk ct un)) {x : Int} (h1 : 1 ≤ x) (h2 : x ≤ zv) (h : Q (.int x) (upd H .buf (some (b, bufV t x zv tk ct un)))) {m : Nat} : callAt defs (m + 1) .bufGoto [.ref .buf b, .int x] H Q X := by
  refine call_open rfl ?_
  show wpSL _ _ _ ir_bufGoto [some (.ref .buf b), some (.int x)] _ _
  unfold ir_bufGoto
  (walk_at "uus")
  rw [Int.max_eq_left h1, Int.min_eq_left h2]
  exact h
theorem needVisible_s (hb : H .buf = some (b, bufV t pt zv tk ct un)) {x y : Int} (h1 : 1 ≤ x) (h2 : y ≤ zv) (h : Q .none H) {m : Nat} : callAt defs (m + 1) .needVisible [.ref .buf b, .int x, .int y] H Q X := by
  refine call_open rfl ?_
  show wpSL _ _ _ ir_needVisible [some (.ref .buf b), some (.int x), some (.int y)] _ _
  unfold ir_needVisible
  (walk_at "uus")
  exact h
theorem isAtBoundary_s (hu : H .ul = some (u, ulV r)) (hr : H .rows = some (r, rowsV rows)) (h : Q (.bool (atB rows)) H) {m : Nat} : callAt defs (m + 1) .ulIsAtBoundary [.ref .ul u] H Q X := by
  refine call_open rfl ?_
  show wpSL _ _ _ ir_ulIsAtBoundary [some (.ref .ul u)] _ _
  unfold ir_ulIsAtBoundary
  refine @bc _ fun k_ => ?_
  rcases List.eq_nil_or_concat rows with rfl | ⟨l, a, rfl⟩ <;> (apply k_; clear k_)
  · (walk_at "uus")
    exact h
  · simp only [List.concat_eq_append, rowsV, List.map_append, List.map_cons, List.map_nil] at hr h
    (walk_at "uus")
    refine o_idx hr getAt_last ?_
    (walk_at "uus")
    refine eq_bnd a ?_
    (walk_at "uus")
    simpa [atB] using h
theorem ulBoundary_s (hu : H .ul = some (u, ulV r)) (hr : H .rows = some (r, rowsV rows)) (hl : rows.length ≤ 100000) (h : ∀ H', H' .rows = some (r, rowsV (if atB rows then rows else rows ++ [.bnd])) → Keep [.rows] H H' → Q .none H') {m : Nat} : callAt defs (m + 2) .ulBoundary [.ref .ul u] H Q X := by
  refine call_open rfl ?_
  show wpSL _ _ _ ir_ulBoundary [some (.ref .ul u)] _ _
  unfold ir_ulBoundary
  (walk_at "uus")
  refine isAtBoundary_s hu hr ?_
  (walk_at "uus")
  refine b_any (fun c => ?_) (fun c => ?_)
  · (walk_at "uus")
    refine o_app hr (by simp; apply lim_big; (first | lia | omega)) ?_
    (walk_at "uus")
    refine h _ ?_ (Keep.refl.upd (by decide))
    rw [upd_same, if_neg (by simpa using c)]
    simp [rowsV, rowV, globV]
  · (walk_at "uus")
    refine h _ ?_ Keep.refl
    rw [if_pos (by simpa using c)]; exact hr
theorem noteState_s (hu : H .ul = some (u, ulV r)) {x : V} (h : Q .none H) {m : Nat} : callAt defs (m + 1) .ulNoteState [.ref .ul u, .bool true, x] H Q X := by
  refine call_open rfl ?_
  show wpSL _ _ _ ir_ulNoteState [some (.ref .ul u), some (.bool true), some x] _ _
  (walk_at "uus")
  exact h
theorem noteBegin_s (hu : H .ul = some (u, ulV r)) (hr : H .rows = some (r, rowsV rows)) {x y : V} (h : Q .none H) {m : Nat} : callAt defs (m + 2) .ulNoteBegin [.ref .ul u, y, .bool true, x] H Q X := by
  refine call_open rfl ?_
  show wpSL _ _ _ ir_ulNoteBegin [some (.ref .ul u), some y, some (.bool true), some x, .none] _ _
  unfold ir_ulNoteBegin
  (walk_at "uus")
  refine isAtBoundary_s hu hr ?_
  (walk_at "uus")
  refine noteState_s hu ?_
  (walk_at "uus")
  refine b_any (fun c => ?_) (fun c => ?_)
  · (walk_at "uus")
    exact h
  · (walk_at "uus")
    exact h
theorem rowV_ins (p n : Nat) : rowV (.ins p n) = .tup [.str .insert, .int (p + 1), .int (p + 1 + n)] := rfl
noncomputable def mergeB (p : Nat) : Row → Bool
  | .ins q k => decide (q + k = p)
  | _ => false
theorem noteInsert_s (hu : H .ul = some (u, ulV r)) (hr : H .rows = some (r, rowsV rows)) (hl : rows.length ≤ 100000) {p n : Nat} {x y : Int} {w z : V} (hx : x = p + 1) (hy : y = n) (hn : 1 ≤ n)
    (h : ∀ H', H' .rows = some (r, rowsV (noteIns rows p n)) → Keep [.rows] H H' → Q .none H') {m : Nat} : callAt defs (m + 3) .ulNoteInsert [.ref .ul u, .int x, .int y, w, .bool true, z] H Q X := by
  subst hx hy
  refine call_open rfl ?_
  show wpSL _ _ _ ir_ulNoteInsert [some (.ref .ul u), some (.int (p + 1)), some (.int n), some w, some (.bool true), some z, .none] _ _
  unfold ir_ulNoteInsert
  (walk_at "uus")
  refine noteBegin_s hu hr ?_
  refine @bc _ fun k_ => ?_
  rcases List.eq_nil_or_concat rows with rfl | ⟨l, a, rfl⟩ <;> (apply k_; clear k_)
  · (walk_at "uus")
    refine o_app hr (by simp [lim]) ?_
    (walk_at "uus")
    refine h _ ?_ (Keep.refl.upd (by decide))
    rw [upd_same]; rfl
  · simp only [List.concat_eq_append, rowsV, List.map_append, List.map_cons, List.map_nil] at hr h hl ⊢
    simp only [List.length_append] at hl
    have hlen : (List.map rowV l ++ [rowV a]).length = l.length + 1 := by simp
    (walk_at "uus")
    refine o_idx hr getAt_last ?_
    (walk_at "uus")
    cases a with
    | bnd =>
      (walk_at "uus")
      refine o_app hr (by simp; apply lim_big; (first | lia | omega)) ?_
      (walk_at "uus")
      refine h _ ?_ (Keep.refl.upd (by decide))
      rw [upd_same]; simp [noteIns, rowV]
    | del q cs bb =>
      (walk_at "uus")
      refine o_app hr (by simp; apply lim_big; (first | lia | omega)) ?_
      (walk_at "uus")
      refine h _ ?_ (Keep.refl.upd (by decide))
      rw [upd_same]; simp [noteIns, rowV]
    | ins q k =>
      simp only [rowV_ins] at hr ⊢
      (walk_at "uus")
      refine b_two (fun c => ?_) (fun c => ?_)
      · (walk_at "uus")
        have e : setItem H (-1) (.tup [.str .insert, .int (q + 1), .int (p + 1 + n)]) (.ref .rows r) = some (upd H .rows (some (r, .list (l.map rowV ++ [.tup [.str .insert, .int (q + 1), .int (p + 1 + n)]])))) := by
          have ea : ((-1 : Int) + (l.length + 1 : Nat)).toNat = l.length := by (first | lia | omega)
          refine (onO_of hr rfl).trans ?_
          simp only [itemIdx, List.length_append, List.length_map, List.length_cons, List.length_nil]
          rw [if_neg (by (first | lia | omega)), if_pos (by (first | lia | omega)), ea]
          simp
        refine optP_of e ?_
        (walk_at "uus")
        refine h _ ?_ (Keep.refl.upd (by decide))
        rw [upd_same]
        have : noteIns (l ++ [.ins q k]) p n = l ++ [.ins q (k + n)] := by simp [noteIns, show q + k = p by (first | lia | omega)]
        rw [this]
        simp [rowV]
        (first | lia | omega)
      · (walk_at "uus")
        refine o_app hr (by simp; apply lim_big; (first | lia | omega)) ?_
        (walk_at "uus")
        refine h _ ?_ (Keep.refl.upd (by decide))
        rw [upd_same]
        have : noteIns (l ++ [.ins q k]) p n = l ++ [.ins q k] ++ [.ins p n] := by simp [noteIns, show ¬ q + k = p by (first | lia | omega)]
        rw [this]
        simp [rowV]
theorem noteDelete_s (hu : H .ul = some (u, ulV r)) (hr : H .rows = some (r, rowsV rows)) (hl : rows.length ≤ 100000) {p : Nat} {cs : List Int} {x pt : Int} {z : V} (hx : x = p + 1) (hn : cs ≠ [])
    (h : ∀ H' bb, H' .rows = some (r, rowsV (rows ++ [.del p cs bb])) → Keep [.rows] H H' → Q .none H') {m : Nat} : callAt defs (m + 3) .ulNoteDelete [.ref .ul u, .int x, pieceV cs, .int pt, .lst [], .bool true, z] H Q X := by
  subst hx
  have hc : 1 ≤ cs.length := by cases cs with | nil => exact absurd rfl hn | cons => simp
  refine call_open rfl ?_
  show wpSL _ _ _ ir_ulNoteDelete [some (.ref .ul u), some (.int (p + 1)), some (.inst .piece [.lst (iv cs), .lst []]), some (.int pt), some (.lst []), some (.bool true), some z, .none, .none] _ _
  unfold ir_ulNoteDelete
  (walk_at "uus")
  refine noteBegin_s hu hr ?_
  (walk_at "uus")
  refine o_app hr (by simp [rowsV]; apply lim_big; (first | lia | omega)) ?_
  (walk_at "uus")
  rw [iv_len]
  refine h _ (decide (pt = p + 1 + cs.length)) ?_ (Keep.refl.upd (by decide))
  rw [upd_same]
  simp [rowsV, rowV, pieceV]
end
set_option backward.match.sparseCases false
noncomputable abbrev Hs := Option (Nat × Nat × List Row)
noncomputable abbrev undoV : Hs → V
  | .none => .none
  | some (u, _, _) => .inst .recording [.ref .ul u]
noncomputable def HistOk (H : St) (tk : Int) : Hs → Prop
  | .none => True
  | some (u, r, rows) => H .ul = some (u, ulV r) ∧ H .rows = some (r, rowsV rows) ∧ 2 ≤ tk
noncomputable def hsLen : Hs → Nat
  | .none => 0
  | some (_, _, rows) => rows.length
noncomputable def hsIns (p n : Nat) : Hs → Hs
  | .none => .none
  | some (u, r, rows) => some (u, r, noteIns rows p n)
noncomputable def hsDel (p : Nat) (cs : List Int) (bb : Bool) : Hs → Hs
  | .none => .none
  | some (u, r, rows) => some (u, r, rows ++ [.del p cs bb])
structure BOk (H : St) (b t : Nat) (pt tk ct : Int) (T : List Int) (hs : Hs) : Prop where
  buf : H .buf = some (b, bufV t pt (T.length + 1) tk ct (undoV hs))
  gap : GapOk H t T
  hist : HistOk H tk hs
  tk : 1 ≤ tk
noncomputable abbrev btags : List Tag := [.buf, .text, .cells, .rows, .tmp]
theorem HistOk.keep {H H' : St} {tk tk' : Int} {hs : Hs} {ts : List Tag} (a : HistOk H tk hs) (k : Keep ts H H') (h1 : Tag.ul ∉ ts) (h2 : Tag.rows ∉ ts) (h : tk ≤ tk') : HistOk H' tk' hs := by
  cases hs with
  | none => trivial
  | some x => exact ⟨(k _ h1).trans a.1, (k _ h2).trans a.2.1, by have := a.2.2; (first | lia | omega)⟩
section
variable {H : St} {Q : V → St → Prop} {X : St → Prop} {b u t r : Nat} {pt zv tk ct : Int} {un : V} {T : List Int} {rows : List Row} {hs : Hs}
theorem recTextComes_s (hb : H .buf = some (b, bufV t pt zv tk ct un)) (hu : H .ul = some (u, ulV r)) (hr : H .rows = some (r, rowsV rows)) (htk : 2 ≤ tk) (hl : rows.length ≤ 100000) {p n : Nat} {x y : Int} (hx : x = p + 1) (hy : y = n) (hn : 1 ≤ n)
    (h : ∀ H', H' .rows = some (r, rowsV (noteIns rows p n)) → Keep [.rows] H H' → Q .none H') {m : Nat} : callAt defs (m + 4) .recTextComes [.inst .recording [.ref .ul u], .ref .buf b, .int x, .int y] H Q X := by
  refine call_open rfl ?_
  show wpSL _ _ _ ir_recTextComes [some (.inst .recording [.ref .ul u]), some (.ref .buf b), some (.int x), some (.int y)] _ _
  unfold ir_recTextComes
  (walk_at "uus")
  refine bufIsModified_s hb htk ?_
  (walk_at "uus")
  refine noteInsert_s hu hr hl hx hy hn fun H' h1 h2 => ?_
  (walk_at "uus")
  exact h _ h1 h2
theorem pieceInit_s {a : Nat} {xs ys : List V} (hp : H .tmp = some (a, .inst .piece [])) (h : Q .none (upd H .tmp (some (a, .inst .piece [.lst xs, .lst ys])))) {m : Nat} : callAt defs (m + 1) .pieceInit [.ref .tmp a, .lst xs, .lst ys] H Q X := by
  refine call_open rfl ?_
  show wpSL _ _ _ ir_pieceInit [some (.ref .tmp a), some (.lst xs), some (.lst ys)] _ _
  unfold ir_pieceInit
  (walk_at "uus")
  rw [upd_upd]
  exact h
theorem recTextGoes_s (hb : H .buf = some (b, bufV t pt zv tk ct un)) (g : GapOk H t T) (hu : H .ul = some (u, ulV r)) (hr : H .rows = some (r, rowsV rows)) (htk : 2 ≤ tk) (hl : rows.length ≤ 100000) {p q : Nat} {x y : Int} (hx : x = p + 1) (hy : y = q + 1) (hpq : p < q) (hq : q ≤ T.length)
    (h : ∀ H' bb, H' .rows = some (r, rowsV (rows ++ [.del p ((T.take q).drop p) bb])) → Keep [.rows, .tmp] H H' → Q .none H') {m : Nat} : callAt defs (m + 4) .recTextGoes [.inst .recording [.ref .ul u], .ref .buf b, .int x, .int y] H Q X := by
  refine call_open rfl ?_
  show wpSL _ _ _ ir_recTextGoes [some (.inst .recording [.ref .ul u]), some (.ref .buf b), some (.int x), some (.int y), .none, .none, .none, .none, .none] _ _
  unfold ir_recTextGoes
  (walk_at "uus")
  refine mkWithin_s ?_
  (walk_at "uus")
  refine bufCodes_s hb g hx hy (by (first | lia | omega)) hq ?_
  (walk_at "uus")
  intro a
  refine pieceInit_s (upd_same _ _ _) ?_
  refine ⟨rfl, ?_⟩
  rw [upd_upd]
  refine optP_of (x := [.lst (iv ((T.take q).drop p)), .lst []]) (by simp [fldsV, upd_same]) ?_
  rw [upd_upd]
  have hb' := (upd_ne H (t := .tmp) .none (show Tag.buf ≠ .tmp by decide)).trans hb
  have hu' := (upd_ne H (t := .tmp) .none (show Tag.ul ≠ .tmp by decide)).trans hu
  have hr' := (upd_ne H (t := .tmp) .none (show Tag.rows ≠ .tmp by decide)).trans hr
  (walk_at "uus")
  refine bufIsModified_s hb' htk ?_
  (walk_at "uus")
  refine noteDelete_s hu' hr' hl hx (by intro e; have := congrArg List.length e; simp at this; (first | lia | omega)) fun H' bb h1 h2 => ?_
  (walk_at "uus")
  exact h _ bb h1 (((Keep.refl).upd (by decide)).trans (h2.mono (by decide)))
noncomputable def insT (T : List Int) (p : Nat) (cs : List Int) : List Int := T.take p ++ (cs ++ T.drop p)
noncomputable def delT (T : List Int) (p q : Nat) : List Int := T.take p ++ T.drop q
theorem insT_len {T : List Int} {p : Nat} {cs : List Int} (h : p ≤ T.length) : (insT T p cs).length = T.length + cs.length := by
  simp [insT]; (first | lia | omega)
theorem delT_len {T : List Int} {p q : Nat} (h : p ≤ q) (h2 : q ≤ T.length) : (delT T p q).length = T.length - (q - p) := by
  simp [delT]; (first | lia | omega)
theorem textIn_s (B : BOk H b t pt tk ct T hs) (hl : hsLen hs ≤ 100000) {p : Nat} {cs : List Int} {x : Int} (hx : x = p + 1) (hp : p ≤ T.length) (hn : cs ≠ []) (hs2 : T.length + cs.length ≤ 99000)
    (h : ∀ H' pt', BOk H' b t pt' tk ct (insT T p cs) (hsIns p cs.length hs) → Keep btags H H' → Q .none H') {m : Nat} : callAt defs (m + 5) .textIn [.ref .buf b, .int x, .lst (iv cs)] H Q X := by
  have hc : 1 ≤ cs.length := by cases cs with | nil => exact absurd rfl hn | cons => simp
  obtain ⟨hb, g, hh, htk⟩ := B
  refine call_open rfl ?_
  show wpSL _ _ _ ir_textIn [some (.ref .buf b), some (.int x), some (.lst (iv cs))] _ _
  unfold ir_textIn
  have key : ∀ H1, H1 .buf = some (b, bufV t pt (T.length + 1) tk ct (undoV hs)) → GapOk H1 t T → HistOk H1 tk (hsIns p cs.length hs) → Keep btags H H1 →
      wpSL (callAt defs (m + 4)) X Q (.cons (.ex (.meth .gapInsert (.op1 (.fld .buffer 2) (.v 0)) (.cons (.op2 .sub (.v 1) (.int 1)) (.cons (.v 2) .nil))))
        (.cons (.setF (.v 0) .buffer 6 (.op2 .add (.op1 (.fld .buffer 6) (.v 0)) (.op1 .len (.v 2))))
        (.cons (.ite (.op2 .gt (.op1 (.fld .buffer 4) (.v 0)) (.v 1))
          (.cons (.setF (.v 0) .buffer 4 (.op2 .add (.op1 (.fld .buffer 4) (.v 0)) (.op1 .len (.v 2))))
        .nil)
          .nil)
        .nil))) [some (.ref .buf b), some (.int x), some (.lst (iv cs))] H1 fun _ H => Q .none H := by
    intro H1 hb1 g1 hh1 k1
    refine @bc _ fun k_ => ?_
    obtain ⟨c, pre, gap, post, g', e⟩ := id g1
    apply k_; clear k_
    have gt := g'.text
    unfold gapV at gt
    (walk_at "uus")
    refine gapInsert_s g1 (p := p) (by (first | lia | omega)) hp (by (first | lia | omega)) fun H2 g2 k2 => ?_
    have hb2 := (k2 .buf (by decide)).trans hb1
    have k12 := k1.trans (k2.mono (ts' := btags) (by decide))
    have eu : undoV (hsIns p cs.length hs) = undoV hs := by cases hs <;> rfl
    have el : ((T.length : Int) + 1 + cs.length) = ((insT T p cs).length : Int) + 1 := by rw [insT_len hp]; (first | lia | omega)
    (walk_at "uus")
    rw [iv_len, el]
    refine b_two (fun c1 => ?_) (fun c1 => ?_)
    · (walk_at "uus")
      refine h _ (pt + (iv cs).length) ⟨?_, ?_, ?_, htk⟩ ((k12.upd (by decide)).upd (by decide))
      · rw [upd_upd, upd_same, eu]
        rfl
      · exact g2.keep (ts := [.buf]) ((Keep.refl.upd (by decide)).upd (by decide)) (by decide) (by decide)
      · refine hh1.keep (ts := [.buf, .text, .cells]) (((k2.mono (by decide)).upd (by decide)).upd (by decide)) (by decide) (by decide) (by (first | lia | omega))
    · (walk_at "uus")
      refine h _ pt ⟨?_, ?_, ?_, htk⟩ (k12.upd (by decide))
      · rw [upd_same, eu]
        rfl
      · exact g2.keep (ts := [.buf]) (Keep.refl.upd (by decide)) (by decide) (by decide)
      · refine hh1.keep (ts := [.buf, .text, .cells]) ((k2.mono (by decide)).upd (by decide)) (by decide) (by decide) (by (first | lia | omega))
  cases hs with
  | none =>
    iterate 8 (walk_at "uu")
    exact key H hb g trivial Keep.refl
  | some z =>
    refine @bc _ fun k_ => ?_
    obtain ⟨u, r, rows⟩ := z
    apply k_; clear k_
    iterate 16 (walk_at "uu")
    refine recTextComes_s hb hh.1 hh.2.1 hh.2.2 hl hx (by rw [iv_len]) hc fun H1 h1 k1 => ?_
    exact key H1 ((k1 .buf (by decide)).trans hb) (g.keep k1 (by decide) (by decide)) ⟨(k1 .ul (by decide)).trans hh.1, h1, hh.2.2⟩ (k1.mono (by decide))
theorem textOut_s (B : BOk H b t pt tk ct T hs) (hl : hsLen hs ≤ 100000) {p q : Nat} {x y : Int} (hx : x = p + 1) (hy : y = q + 1) (hpq : p < q) (hq : q ≤ T.length)
    (h : ∀ H' pt' bb, BOk H' b t pt' tk ct (delT T p q) (hsDel p ((T.take q).drop p) bb hs) → Keep btags H H' → Q (.lst (iv ((T.take q).drop p))) H') {m : Nat} : callAt defs (m + 5) .textOut [.ref .buf b, .int x, .int y] H Q X := by
  refine @bc _ fun k_ => ?_
  obtain ⟨hb, g, hh, htk⟩ := B
  apply k_; clear k_
  refine call_open rfl ?_
  show wpSL _ _ _ ir_textOut [some (.ref .buf b), some (.int x), some (.int y), .none] _ _
  unfold ir_textOut
  have key : ∀ H1 bb, H1 .buf = some (b, bufV t pt (T.length + 1) tk ct (undoV hs)) → GapOk H1 t T → HistOk H1 tk (hsDel p ((T.take q).drop p) bb hs) → Keep btags H H1 →
      wpSL (callAt defs (m + 4)) X Q (.cons (.asg 3 (.meth .gapDelete (.op1 (.fld .buffer 2) (.v 0)) (.cons (.op2 .sub (.v 1) (.int 1)) (.cons (.op2 .sub (.v 2) (.int 1)) .nil))))
        (.cons (.setF (.v 0) .buffer 6 (.op2 .sub (.op1 (.fld .buffer 6) (.v 0)) (.op2 .sub (.v 2) (.v 1))))
        (.cons (.ite (.op2 .gt (.op1 (.fld .buffer 4) (.v 0)) (.v 1))
          (.cons (.setF (.v 0) .buffer 4 (.op2 .max (.v 1) (.op2 .sub (.op1 (.fld .buffer 4) (.v 0)) (.op2 .sub (.v 2) (.v 1)))))
        .nil)
          .nil)
        (.cons (.ret (.v 3))
        .nil)))) [some (.ref .buf b), some (.int x), some (.int y), .none] H1 fun _ H => Q .none H := by
    intro H1 bb hb1 g1 hh1 k1
    refine @bc _ fun k_ => ?_
    obtain ⟨c, pre, gap, post, g', e⟩ := id g1
    apply k_; clear k_
    have gt := g'.text
    unfold gapV at gt
    (walk_at "uus")
    refine gapDelete_s g1 (a := p) (b := q) (by (first | lia | omega)) (by (first | lia | omega)) (by (first | lia | omega)) hq fun H2 g2 k2 => ?_
    have hb2 := (k2 .buf (by decide)).trans hb1
    have k12 := k1.trans (k2.mono (ts' := btags) (by decide))
    have eu : undoV (hsDel p ((T.take q).drop p) bb hs) = undoV hs := by cases hs <;> rfl
    have el : ((T.length : Int) + 1 - (y - x)) = ((delT T p q).length : Int) + 1 := by rw [delT_len (by (first | lia | omega)) hq]; (first | lia | omega)
    (walk_at "uus")
    rw [el]
    refine b_two (fun c1 => ?_) (fun c1 => ?_)
    · (walk_at "uus")
      refine h _ (max x (pt - (y - x))) bb ⟨?_, ?_, ?_, htk⟩ ((k12.upd (by decide)).upd (by decide))
      · rw [upd_upd, upd_same, eu]
        rfl
      · exact g2.keep (ts := [.buf]) ((Keep.refl.upd (by decide)).upd (by decide)) (by decide) (by decide)
      · refine hh1.keep (ts := [.buf, .text, .cells]) (((k2.mono (by decide)).upd (by decide)).upd (by decide)) (by decide) (by decide) (by (first | lia | omega))
    · (walk_at "uus")
      refine h _ pt bb ⟨?_, ?_, ?_, htk⟩ (k12.upd (by decide))
      · rw [upd_same, eu]
        rfl
      · exact g2.keep (ts := [.buf]) (Keep.refl.upd (by decide)) (by decide) (by decide)
      · refine hh1.keep (ts := [.buf, .text, .cells]) ((k2.mono (by decide)).upd (by decide)) (by decide) (by decide) (by (first | lia | omega))
  cases hs with
  | none =>
    iterate 8 (walk_at "uu")
    exact key H true hb g trivial Keep.refl
  | some z =>
    refine @bc _ fun k_ => ?_
    obtain ⟨u, r, rows⟩ := z
    apply k_; clear k_
    iterate 15 (walk_at "uu")
    refine recTextGoes_s hb g hh.1 hh.2.1 hh.2.2 hl hx hy hpq hq fun H1 bb h1 k1 => ?_
    exact key H1 bb ((k1 .buf (by decide)).trans hb) (g.keep k1 (by decide) (by decide)) ⟨(k1 .ul (by decide)).trans hh.1, h1, hh.2.2⟩ (k1.mono (by decide))
theorem BOk.touch {H' : St} {k : Int} (B : BOk H b t pt tk ct T hs) (hk : tk ≤ k) {ct' : Int} (e : H' = upd H .buf (some (b, bufV t pt (T.length + 1) k ct' (undoV hs)))) : BOk H' b t pt k ct' T hs := by
  subst e
  refine ⟨upd_same _ _ _, B.gap.keep (ts := [.buf]) (Keep.refl.upd (by decide)) (by decide) (by decide), B.hist.keep (ts := [.buf]) (Keep.refl.upd (by decide)) (by decide) (by decide) hk, by have := B.tk; (first | lia | omega)⟩
theorem BOk.goto {H' : St} {pt' : Int} (B : BOk H b t pt tk ct T hs) (e : H' = upd H .buf (some (b, bufV t pt' (T.length + 1) tk ct (undoV hs)))) : BOk H' b t pt' tk ct T hs := by
  subst e
  refine ⟨upd_same _ _ _, B.gap.keep (ts := [.buf]) (Keep.refl.upd (by decide)) (by decide) (by decide), B.hist.keep (ts := [.buf]) (Keep.refl.upd (by decide)) (by decide) (by decide) (Int.le_refl _), B.tk⟩
theorem putIn_s (B : BOk H b t pt tk ct T hs) (hl : hsLen hs ≤ 100000) {p : Nat} {cs : List Int} {x : Int} (hx : x = p + 1) (hp : p ≤ T.length) (hn : cs ≠ []) (hs2 : T.length + cs.length ≤ 99000) {bm : V} {pb : Bool}
    (h : ∀ H' pt' ct', BOk H' b t pt' (tk + 1) ct' (insT T p cs) (hsIns p cs.length hs) → Keep btags H H' → Q .none H') {m : Nat} : callAt defs (m + 6) .putIn [.ref .buf b, .int x, .lst (iv cs), bm, .bool pb] H Q X := by
  have hc : 1 ≤ cs.length := by cases cs with | nil => exact absurd rfl hn | cons => simp
  have hb := B.buf
  refine call_open rfl ?_
  show wpSL _ _ _ ir_putIn [some (.ref .buf b), some (.int x), some (.lst (iv cs)), some bm, some (.bool pb)] _ _
  unfold ir_putIn
  (walk_at "uus")
  refine needWritable_s hb ?_
  (walk_at "uus")
  refine reached_s hb (by (first | lia | omega)) (by (first | lia | omega)) (by (first | lia | omega)) ?_
  (walk_at "uus")
  refine needRoom_s hb B.gap (by rw [iv_len]; (first | lia | omega)) ?_
  (walk_at "uus")
  refine tellAhead_s hb ?_
  (walk_at "uus")
  refine textIn_s B hl hx hp hn hs2 fun H1 pt1 B1 k1 => ?_
  have hb1 := B1.buf
  (walk_at "uus")
  refine b_any (fun _ => ?_) (fun _ => ?_)
  · (walk_at "uus")
    have B2 := B1.goto (pt' := x + (iv cs).length) rfl
    have hb2 := B2.buf
    refine mkInserted_s ?_
    (walk_at "uus")
    refine hungIn_s hb2 ?_
    (walk_at "uus")
    refine tellBehind_s hb2 ?_
    (walk_at "uus")
    exact h _ _ _ (B2.touch (by (first | lia | omega)) rfl) ((k1.upd (by decide)).upd (by decide))
  · (walk_at "uus")
    refine mkInserted_s ?_
    (walk_at "uus")
    refine hungIn_s hb1 ?_
    (walk_at "uus")
    refine tellBehind_s hb1 ?_
    (walk_at "uus")
    exact h _ _ _ (B1.touch (by (first | lia | omega)) rfl) (k1.upd (by decide))
theorem insertAt_s (B : BOk H b t pt tk ct T hs) (hl : hsLen hs ≤ 100000) {p : Nat} {cs : List Int} {x : Int} (hx : x = p + 1) (hp : p ≤ T.length) (hn : cs ≠ []) (hs2 : T.length + cs.length ≤ 99000)
    (h : ∀ H' pt' ct', BOk H' b t pt' (tk + 1) ct' (insT T p cs) (hsIns p cs.length hs) → Keep btags H H' → Q .none H') {m : Nat} : callAt defs (m + 7) .insertAt [.ref .buf b, .int x, .lst (iv cs)] H Q X := by
  refine call_open rfl ?_
  show wpSL _ _ _ ir_insertAt [some (.ref .buf b), some (.int x), some (.lst (iv cs)), some (.bool false)] _ _
  (walk_at "uus")
  refine putIn_s B hl hx hp hn hs2 fun H' pt' ct' B' k' => ?_
  (walk_at "uus")
  exact h _ _ _ B' k'
theorem insert_s (B : BOk H b t pt tk ct T hs) (hl : hsLen hs ≤ 100000) {p : Nat} {cs : List Int} (hx : pt = p + 1) (hp : p ≤ T.length) (hn : cs ≠ []) (hs2 : T.length + cs.length ≤ 99000)
    (h : ∀ H' pt' ct', BOk H' b t pt' (tk + 1) ct' (insT T p cs) (hsIns p cs.length hs) → Keep btags H H' → Q .none H') {m : Nat} : callAt defs (m + 7) .insert [.ref .buf b, .lst (iv cs)] H Q X := by
  have hb := B.buf
  refine call_open rfl ?_
  show wpSL _ _ _ ir_insert [some (.ref .buf b), some (.lst (iv cs)), some (.bool false)] _ _
  unfold ir_insert
  (walk_at "uus")
  refine putIn_s B hl hx hp hn hs2 fun H' pt' ct' B' k' => ?_
  (walk_at "uus")
  exact h _ _ _ B' k'
theorem insertPiece_s (B : BOk H b t pt tk ct T hs) (hl : hsLen hs ≤ 100000) {p : Nat} {cs : List Int} (hx : pt = p + 1) (hp : p ≤ T.length) (hn : cs ≠ []) (hs2 : T.length + cs.length ≤ 99000)
    (h : ∀ H' pt' ct', BOk H' b t pt' (tk + 1) ct' (insT T p cs) (hsIns p cs.length hs) → Keep btags H H' → Q .none H') {m : Nat} : callAt defs (m + 8) .insertPiece [.ref .buf b, pieceV cs] H Q X := by
  have hb := B.buf
  refine call_open rfl ?_
  show wpSL _ _ _ ir_insertPiece [some (.ref .buf b), some (.inst .piece [.lst (iv cs), .lst []]), .none, .none] _ _
  unfold ir_insertPiece
  (walk_at "uus")
  refine insert_s B hl hx hp hn hs2 fun H' pt' ct' B' k' => ?_
  have hb' := B'.buf
  (walk_at "uus")
  exact h _ _ _ B' k'
theorem delete_s (B : BOk H b t pt tk ct T hs) (hl : hsLen hs ≤ 100000) {p q : Nat} {x y : Int} (hx : x = p + 1) (hy : y = q + 1) (hpq : p < q) (hq : q ≤ T.length)
    (h : ∀ H' pt' ct' bb v, BOk H' b t pt' (tk + 1) ct' (delT T p q) (hsDel p ((T.take q).drop p) bb hs) → Keep btags H H' → Q v H') {m : Nat} : callAt defs (m + 6) .delete [.ref .buf b, .int x, .int y] H Q X := by
  have hb := B.buf
  refine call_open rfl ?_
  show wpSL _ _ _ ir_delete [some (.ref .buf b), some (.int x), some (.int y), .none, .none, .none] _ _
  unfold ir_delete
  (walk_at "uus")
  refine needWritable_s hb ?_
  (walk_at "uus")
  refine reached_s hb (by (first | lia | omega)) (by (first | lia | omega)) (by (first | lia | omega)) ?_
  (walk_at "uus")
  refine tellAhead_s hb ?_
  (walk_at "uus")
  refine textOut_s B hl hx hy hpq hq fun H1 pt1 bb B1 k1 => ?_
  have hb1 := B1.buf
  (walk_at "uus")
  refine mkDeleted_s ?_
  (walk_at "uus")
  refine hungOut_s hb1 ?_
  (walk_at "uus")
  refine tellBehind_s hb1 ?_
  (walk_at "uus")
  exact h _ _ _ bb _ (B1.touch (by (first | lia | omega)) rfl) (k1.upd (by decide))
theorem undoInsert_s (B : BOk H b t pt tk ct T hs) (hl : hsLen hs ≤ 100000) {p n : Nat} (hn : 1 ≤ n) (hq : p + n ≤ T.length)
    (h : ∀ H' pt' ct' bb, BOk H' b t pt' (tk + 1) ct' (delT T p (p + n)) (hsDel p ((T.take (p + n)).drop p) bb hs) → Keep btags H H' → Q .none H') {m : Nat} : callAt defs (m + 7) .undoInsert [.ref .buf b, rowV (.ins p n)] H Q X := by
  have hb := B.buf
  refine call_open rfl ?_
  show wpSL _ _ _ ir_undoInsert [some (.ref .buf b), some (.tup [.str .insert, .int (p + 1), .int (p + 1 + n)])] _ _
  (walk_at "uus")
  refine needVisible_s hb (by (first | lia | omega)) (by (first | lia | omega)) ?_
  (walk_at "uus")
  refine bufGoto_s hb (by (first | lia | omega)) (by (first | lia | omega)) ?_
  have B1 := B.goto (pt' := p + 1) rfl
  (walk_at "uus")
  refine delete_s B1 hl (p := p) (q := p + n) rfl (by (first | lia | omega)) (by (first | lia | omega)) hq fun H' pt' ct' bb v B' k' => ?_
  (walk_at "uus")
  exact h _ _ _ bb B' ((Keep.refl.upd (by decide)).trans k')
theorem undoDelete_s (B : BOk H b t pt tk ct T hs) (hl : hsLen hs ≤ 100000) {p : Nat} {cs : List Int} {bb : Bool} (hp : p ≤ T.length) (hn : cs ≠ []) (hs2 : T.length + cs.length ≤ 99000)
    (h : ∀ H' pt' ct', BOk H' b t pt' (tk + 1) ct' (insT T p cs) (hsIns p cs.length hs) → Keep btags H H' → Q .none H') {m : Nat} : callAt defs (m + 9) .undoDelete [.ref .buf b, rowV (.del p cs bb), .lst []] H Q X := by
  have hb := B.buf
  refine call_open rfl ?_
  show wpSL _ _ _ ir_undoDelete [some (.ref .buf b), some (.tup [.str .delete, .int (p + 1), pieceV cs, .bool bb]), some (.lst []), .none, .none, .none, .none] _ _
  (walk_at "uus")
  refine needVisible_s hb (by (first | lia | omega)) (by (first | lia | omega)) ?_
  (walk_at "uus")
  refine bufGoto_s hb (by (first | lia | omega)) (by (first | lia | omega)) ?_
  have B1 := B.goto (pt' := p + 1) rfl
  (walk_at "uus")
  refine insertPiece_s B1 hl rfl hp hn hs2 fun H' pt' ct' B' k' => ?_
  have hb' := B'.buf
  have k0 : Keep btags H H' := (Keep.refl.upd (by decide)).trans k'
  (walk_at "uus")
  refine b_any (fun _ => ?_) (fun _ => ?_)
  · (walk_at "uus")
    have il := insT_len (cs := cs) hp
    refine bufGoto_s hb' (by (first | lia | omega)) (by (first | lia | omega)) ?_
    (walk_at "uus")
    exact h _ _ _ (B'.goto (pt' := p + 1) rfl) (k0.upd (by decide))
  · (walk_at "uus")
    exact h _ _ _ B' k0
end
set_option backward.match.sparseCases false
noncomputable def Ok (T : List Int) : Prop := 7 ∈ T ∧ T.length ≤ 90000
noncomputable def Step : Row → List Int → List Int → Prop
  | .bnd, T, T' => T' = T
  | .ins p n, T, T' => 1 ≤ n ∧ p ≤ T.length ∧ ∃ cs : List Int, cs.length = n ∧ T' = insT T p cs
  | .del p cs _, T, T' => cs ≠ [] ∧ p ≤ T'.length ∧ T = insT T' p cs
noncomputable def Hist (T : List Int) : List Row → List Int → Prop
  | [], T' => Ok T ∧ T' = T
  | a :: rs, T'' => Ok T ∧ ∃ T', Step a T T' ∧ Hist T' rs T''
theorem Hist.ok1 {T T' : List Int} : ∀ {rs : List Row}, Hist T rs T' → Ok T
  | [], h => h.1
  | _ :: _, h => h.1
theorem Hist.ok2 : ∀ {rs : List Row} {T T' : List Int}, Hist T rs T' → Ok T'
  | [], _, _, h => by rw [h.2]; exact h.1
  | _ :: _, _, _, ⟨_, _, _, h⟩ => h.ok2
theorem Hist.split : ∀ {a b : List Row} {T T'' : List Int}, Hist T (a ++ b) T'' → ∃ T', Hist T a T' ∧ Hist T' b T''
  | [], b, T, T'', h => ⟨T, ⟨h.ok1, rfl⟩, h⟩
  | x :: a, b, T, T'', ⟨o, T1, s, h⟩ => by
    obtain ⟨T', h1, h2⟩ := Hist.split h
    exact ⟨T', ⟨o, T1, s, h1⟩, h2⟩
theorem Hist.app : ∀ {a b : List Row} {T T' T'' : List Int}, Hist T a T' → Hist T' b T'' → Hist T (a ++ b) T''
  | [], b, T, T', T'', h1, h2 => by rw [h1.2] at h2; exact h2
  | x :: a, b, T, T', T'', ⟨o, T1, s, h⟩, h2 => ⟨o, T1, s, Hist.app h h2⟩
theorem Hist.one {a : Row} {T T' : List Int} (s : Step a T T') (o : Ok T) (o' : Ok T') : Hist T [a] T' := ⟨o, T', s, o', rfl⟩
theorem Hist.last {a : List Row} {x : Row} {T T'' : List Int} (h : Hist T (a ++ [x]) T'') : ∃ T', Hist T a T' ∧ Step x T' T'' := by
  refine @bc _ fun k_ => ?_
  obtain ⟨T', h1, o, T1, s, _, e⟩ := h.split
  apply k_; clear k_
  subst e
  exact ⟨T', h1, s⟩
theorem del_of_ins {T : List Int} {p : Nat} {cs : List Int} (h : p ≤ T.length) : delT (insT T p cs) p (p + cs.length) = T ∧ ((insT T p cs).take (p + cs.length)).drop p = cs := by
  have e1 : (T.take p).length = p := by simp; (first | lia | omega)
  constructor
  · delta delT insT
    rw [List.take_append_of_le_length (by (first | lia | omega)), List.take_of_length_le (by (first | lia | omega)), drop_app (A := T.take p) (k := cs.length) (by (first | lia | omega)), drop_app (A := cs) (k := 0) (by (first | lia | omega))]
    simp
  · unfold insT
    rw [take_app (A := T.take p) (k := cs.length) (by (first | lia | omega)), take_app (A := cs) (k := 0) (by (first | lia | omega)), drop_app (A := T.take p) (k := 0) (by (first | lia | omega))]
    simp
theorem noteIns_cases (rows : List Row) (p n : Nat) : noteIns rows p n = rows ++ [.ins p n] ∨ ∃ l q k, rows = l ++ [.ins q k] ∧ q + k = p ∧ noteIns rows p n = l ++ [.ins q (k + n)] := by
  rcases List.eq_nil_or_concat rows with rfl | ⟨l, a, rfl⟩
  · exact .inl rfl
  · simp only [List.concat_eq_append]
    cases a with
    | bnd => exact .inl (by simp [noteIns])
    | del _ _ _ => exact .inl (by simp [noteIns])
    | ins q k =>
      by_cases e : q + k = p
      · exact .inr ⟨l, q, k, rfl, e, by simp [noteIns, e]⟩
      · exact .inl (by simp [noteIns, e])
theorem insT_insT {T : List Int} {p : Nat} {c1 c2 : List Int} (h : p ≤ T.length) : insT (insT T p c1) (p + c1.length) c2 = insT T p (c1 ++ c2) := by
  have e1 : (T.take p).length = p := by simp; (first | lia | omega)
  unfold insT
  rw [take_app (A := T.take p) (k := c1.length) (by (first | lia | omega)), take_app (A := c1) (k := 0) (by (first | lia | omega)), drop_app (A := T.take p) (k := c1.length) (by (first | lia | omega)), drop_app (A := c1) (k := 0) (by (first | lia | omega))]
  simp
theorem Hist.note {T T1 T2 : List Int} {rows : List Row} {p : Nat} {cs : List Int} (h : Hist T rows T1) (hp : p ≤ T1.length) (hc : cs ≠ []) (e : T2 = insT T1 p cs) (o : Ok T2) : Hist T (noteIns rows p cs.length) T2 := by
  have hl : 1 ≤ cs.length := by cases cs with | nil => exact absurd rfl hc | cons => simp
  rcases noteIns_cases rows p cs.length with q | ⟨l, q, k, rfl, q1, q2⟩
  · rw [q]
    exact h.app (.one ⟨hl, hp, cs, rfl, e⟩ h.ok2 o)
  · rw [q2]
    refine @bc _ fun k_ => ?_
    obtain ⟨T', h1, hk, hq, c1, e0_, e1⟩ := h.last
    apply k_; clear k_
    subst e0_
    refine h1.app (.one ⟨by (first | lia | omega), hq, c1 ++ cs, by simp, ?_⟩ h1.ok2 o)
    rw [e, e1, ← q1, insT_insT hq]
noncomputable def noB (rows : List Row) : Prop := ∀ a ∈ rows, isB a = false
theorem noB.note {rows : List Row} (h : noB rows) (p n : Nat) : noB (noteIns rows p n) := by
  rcases noteIns_cases rows p n with q | ⟨l, q, k, rfl, q1, q2⟩
  · rw [q]; intro a ha
    rcases List.mem_append.mp ha with ha | ha
    · exact h a ha
    · simp at ha; subst ha; rfl
  · rw [q2]; intro a ha
    rcases List.mem_append.mp ha with ha | ha
    · exact h a (List.mem_append_left _ ha)
    · simp at ha; subst ha; rfl
theorem noteIns_len (rows : List Row) (p n : Nat) : (noteIns rows p n).length ≤ rows.length + 1 ∧ noteIns rows p n ≠ [] := by
  refine @bc _ fun k_ => ?_
  rcases noteIns_cases rows p n with q | ⟨l, q, k, rfl, q1, q2⟩ <;> (apply k_; clear k_)
  · rw [q]; simp
  · rw [q2]; simp
theorem noteIns_base (base new : List Row) (p n : Nat) (h : atB base = true) : noteIns (base ++ new) p n = base ++ noteIns new p n := by
  rcases List.eq_nil_or_concat new with rfl | ⟨l, a, rfl⟩
  · rw [List.append_nil]
    unfold noteIns
    unfold atB at h
    split
    · rename_i e; rw [e] at h; cases h
    · rfl
  · simp only [List.concat_eq_append]
    unfold noteIns
    have e1 : (base ++ (l ++ [a])).getLast? = some a := by rw [← List.append_assoc]; simp
    have e2 : (l ++ [a]).getLast? = some a := by simp
    rw [e1, e2]
    cases a with
    | bnd => simp
    | del _ _ _ => simp
    | ins q k =>
      simp only
      split
      · rw [← List.append_assoc, List.dropLast_concat, List.dropLast_concat]; simp
      · simp
section
variable {H : St} {Q : V → St → Prop} {X : St → Prop} {b u t r : Nat} {pt zv tk ct : Int} {un : V} {T : List Int} {rows : List Row} {hs : Hs}
theorem iv_nil : iv [] = [] := rfl
theorem rowAt {rows : List Row} {a : Row} {n : Nat} {k : Int} (h : rows[n]? = some a) (hk : k = n) : getAt (rows.map rowV) k = some (rowV a) := by
  rw [getAt_nat hk, List.getElem?_map, h]; rfl
theorem kind_ins {p n : Nat} {P : V → Prop} (q : P (.str .insert)) : optP (ev2 H .idx (rowV (.ins p n)) (.int 0)) P := q
theorem kind_del {p : Nat} {cs bb} {P : V → Prop} (q : P (.str .delete)) : optP (ev2 H .idx (rowV (.del p cs bb)) (.int 0)) P := q
theorem kind_bnd {P : V → Prop} (q : P (.str .boundary)) : optP (ev2 H .idx (rowV .bnd) (.int 0)) P := q
theorem markersAhead_s {at_ : Nat} {x : Int} (hx : x = at_) (ha : at_ ≤ rows.length) (h : Q (.lst []) H) {m : Nat} : callAt defs (m + 1) .markersAhead [.lst (rows.map rowV), .int x] H Q X := by
  subst hx
  refine call_open rfl ?_
  show wpSL _ _ _ ir_markersAhead [some (.lst (rows.map rowV)), some (.int at_), .none] _ _
  unfold ir_markersAhead
  (walk_at "uus")
  refine ⟨1, ?_⟩
  refine whl_step ?_
  (walk_at "uus")
  rcases Nat.eq_zero_or_pos at_ with rfl | hpos
  · (walk_at "uus")
    exact h
  · (walk_at "uus")
    obtain ⟨a, ha'⟩ : ∃ a, rows[at_ - 1]? = some a := ⟨rows[at_ - 1], List.getElem?_eq_getElem (by (first | lia | omega))⟩
    refine o_idxL (rowAt ha' (by (first | lia | omega))) ?_
    cases a with
    | ins p n => (walk_at "uu"); (refine kind_ins ?_); (walk_at "uus"); exact h
    | del p cs bb => (walk_at "uu"); (refine kind_del ?_); (walk_at "uus"); exact h
    | bnd => (walk_at "uu"); (refine kind_bnd ?_); (walk_at "uus"); exact h
end
set_option backward.match.sparseCases false
noncomputable def abv (rows : List Row) : Nat → Nat
  | 0 => 0
  | n + 1 => match rows[n]? with
    | some a => if isB a then abv rows n else n + 1
    | .none => n + 1
theorem rowAtT {rows : List Row} {a : Row} {n : Nat} {k : Int} (h : rows[n]? = some a) (hk : k = n) : getAt (rows.map rowV) k = some (rowV a) := rowAt h hk
section
variable {H : St} {Q : V → St → Prop} {X : St → Prop} {b u t r : Nat} {pt zv tk ct : Int} {un : V} {T : List Int} {rows : List Row} {hs : Hs}
theorem undoRow_s {base new : List Row} {T0 Tp : List Int} {a : Row} {at_ : Nat} {x : Int} (B : BOk H b t pt tk ct T (some (u, r, base ++ new))) (hb0 : atB base = true) (hh : Hist T0 new T) (nb : noB new) (s : Step a Tp T) (op : Ok Tp) (ha : isB a = false)
    (hx : x = at_) (h1 : 1 ≤ at_) (ha2 : rows[at_ - 1]? = some a) (hl : base.length + new.length ≤ 99999)
    (h : ∀ H' pt' tk' ct' new', BOk H' b t pt' tk' ct' Tp (some (u, r, base ++ new')) → Hist T0 new' Tp → noB new' → new' ≠ [] → new'.length ≤ new.length + 1 → Keep btags H H' → Q (.int (x - 1)) H') {m : Nat} : callAt defs (m + 10) .undoRow [.ref .buf b, .lst (rows.map rowV), .int x] H Q X := by
  refine call_open rfl ?_
  show wpSL _ _ _ ir_undoRow [some (.ref .buf b), some (.lst (rows.map rowV)), some (.int x), .none, .none] _ _
  unfold ir_undoRow
  (walk_at "uus")
  refine o_idxL (rowAt ha2 (by (first | lia | omega))) ?_
  cases a with
  | bnd => cases ha
  | ins p n =>
    refine @bc _ fun k_ => ?_
    obtain ⟨hn, hp, cs, e0_, e1_⟩ := s
    apply k_; clear k_
    subst e0_ e1_
    have il := insT_len (cs := cs) hp
    refine @bc _ fun k_ => ?_
    obtain ⟨d1, d2⟩ := del_of_ins (cs := cs) hp
    apply k_; clear k_
    have hc : cs ≠ [] := by intro e; subst e; simp at hn
    (walk_at "uus")
    refine undoInsert_s B (by simp [hsLen]; (first | lia | omega)) hn (by (first | lia | omega)) fun H' pt' ct' bb B' k' => ?_
    rw [d1, d2] at B'
    (walk_at "uus")
    refine h _ pt' (tk + 1) ct' (new ++ [.del p cs bb]) ?_ (hh.app (.one (a := .del p cs bb) ⟨hc, hp, rfl⟩ hh.ok2 op)) ?_ (by simp) (by simp) k'
    · simpa [hsDel] using B'
    · intro a ha
      rcases List.mem_append.mp ha with ha | ha
      · exact nb a ha
      · simp at ha; subst ha; rfl
  | del p cs bb =>
    obtain ⟨hc, hp, rfl⟩ := s
    have il := insT_len (cs := cs) hp
    have := op.2
    (walk_at "uus")
    refine markersAhead_s (at_ := at_ - 1) (by (first | lia | omega)) ?_ ?_
    · have := List.getElem?_eq_some_iff.mp ha2
      obtain ⟨q, _⟩ := this
      (first | lia | omega)
    (walk_at "uus")
    refine undoDelete_s B (by simp [hsLen]; (first | lia | omega)) hp hc (by (first | lia | omega)) fun H' pt' ct' B' k' => ?_
    (walk_at "uus")
    have e : x - 1 - ((([] : List V).length : Nat) : Int) = x - 1 := by simp
    rw [e]
    refine h _ pt' (tk + 1) ct' (noteIns new p cs.length) ?_ (hh.note hp hc rfl op) (nb.note _ _) (noteIns_len _ _ _).2 (noteIns_len _ _ _).1 k'
    simp only [hsIns] at B'
    rw [noteIns_base _ _ _ _ hb0] at B'
    exact B'
theorem above_loop {C : CallT} {R : V → St → Prop} {N : Loc → St → Prop} : ∀ n : Nat, n ≤ rows.length → N [some (.lst (rows.map rowV)), some (.int (abv rows n))] H →
    whlRec (tst C (.and_ (.op2 .gt (.v 1) (.int 0)) (.op2 .eq (.op2 .idx (.v 0) (.op2 .sub (.v 1) (.int 1))) (.glob .boundary)))) (bdy C R (.cons (.asg 1 (.op2 .sub (.v 1) (.int 1))) .nil)) (n + 1) [some (.lst (rows.map rowV)), some (.int n)] H N := by
  intro x_
  induction x_ with
  | zero =>
    intro _ h
    refine whl_step ?_
    (walk_at "uus")
    exact h
  | succ n ih =>
    intro hn h
    refine whl_step ?_
    obtain ⟨a, ha⟩ : ∃ a, rows[n]? = some a := ⟨rows[n], List.getElem?_eq_getElem (by (first | lia | omega))⟩
    (walk_at "uus")
    refine o_idxL (rowAt ha (by (first | lia | omega))) ?_
    (walk_at "uus")
    refine eq_bnd a ?_
    (walk_at "uus")
    simp only [abv, ha] at h
    refine b_any (fun c => ?_) (fun c => ?_)
    · rw [if_pos c] at h
      (walk_at "uus")
      have e : (((n + 1 : Nat) : Int) - 1) = n := by (first | lia | omega)
      rw [e]
      exact ih (by (first | lia | omega)) h
    · rw [if_neg (by simp [c])] at h
      exact h
theorem above_s {n : Nat} {x : Int} (hx : x = n) (hn : n ≤ rows.length) (h : Q (.int (abv rows n)) H) {m : Nat} : callAt defs (m + 1) .aboveBoundaries [.lst (rows.map rowV), .int x] H Q X := by
  subst hx
  refine call_open rfl ?_
  show wpSL _ _ _ ir_aboveBoundaries [some (.lst (rows.map rowV)), some (.int n)] _ _
  unfold ir_aboveBoundaries
  (walk_at "uu")
  refine s_whl' ⟨n + 1, above_loop n hn ?_⟩
  (walk_at "uus")
  exact h
theorem aboveR_loop {C : CallT} {R : V → St → Prop} {N : Loc → St → Prop} (hr : H .rows = some (r, rowsV rows)) : ∀ n : Nat, n ≤ rows.length → N [some (.ref .rows r), some (.int (abv rows n))] H →
    whlRec (tst C (.and_ (.op2 .gt (.v 1) (.int 0)) (.op2 .eq (.op2 .idx (.v 0) (.op2 .sub (.v 1) (.int 1))) (.glob .boundary)))) (bdy C R (.cons (.asg 1 (.op2 .sub (.v 1) (.int 1))) .nil)) (n + 1) [some (.ref .rows r), some (.int n)] H N := by
  intro x_
  induction x_ with
  | zero =>
    intro _ h
    refine whl_step ?_
    (walk_at "uus")
    exact h
  | succ n ih =>
    intro hn h
    refine whl_step ?_
    obtain ⟨a, ha⟩ : ∃ a, rows[n]? = some a := ⟨rows[n], List.getElem?_eq_getElem (by (first | lia | omega))⟩
    (walk_at "uus")
    refine o_idx hr (rowAt ha (by (first | lia | omega))) ?_
    (walk_at "uus")
    refine eq_bnd a ?_
    (walk_at "uus")
    simp only [abv, ha] at h
    refine b_any (fun c => ?_) (fun c => ?_)
    · rw [if_pos c] at h
      (walk_at "uus")
      have e : (((n + 1 : Nat) : Int) - 1) = n := by (first | lia | omega)
      rw [e]
      exact ih (by (first | lia | omega)) h
    · rw [if_neg (by simp [c])] at h
      exact h
theorem aboveR_s (hr : H .rows = some (r, rowsV rows)) {n : Nat} {x : Int} (hx : x = n) (hn : n ≤ rows.length) (h : Q (.int (abv rows n)) H) {m : Nat} : callAt defs (m + 1) .aboveBoundaries [.ref .rows r, .int x] H Q X := by
  subst hx
  refine call_open rfl ?_
  show wpSL _ _ _ ir_aboveBoundaries [some (.ref .rows r), some (.int n)] _ _
  unfold ir_aboveBoundaries
  (walk_at "uu")
  refine s_whl' ⟨n + 1, aboveR_loop hr n hn ?_⟩
  (walk_at "uus")
  exact h
theorem undo_loop {m : Nat} {R : V → St → Prop} {N : Loc → St → Prop} {base : List Row} {T0 Tp : List Int} (hb0 : atB base = true) {pre rest : List Row} (hpre : atB pre = true) :
    ∀ (n : Nat) (G : List Row), G.length = n → noB G → ∀ {H : St} {pt tk ct : Int} {T : List Int} {new : List Row}, BOk H b t pt tk ct T (some (u, r, base ++ new)) → Hist T0 new T → noB new → Hist Tp G T → rows = pre ++ (G ++ rest) → base.length + new.length + n ≤ 99999 →
    (∀ H' pt' tk' ct' new', BOk H' b t pt' tk' ct' Tp (some (u, r, base ++ new')) → Hist T0 new' Tp → noB new' → (new ≠ [] ∨ G ≠ [] → new' ≠ []) → new'.length ≤ new.length + n → Keep btags H H' → N [some (.ref .buf b), some (.lst (rows.map rowV)), some (.int pre.length)] H') →
    whlRec (tst (callAt defs (m + 10)) (.and_ (.op2 .gt (.v 2) (.int 0)) (.op2 .ne (.op2 .idx (.v 1) (.op2 .sub (.v 2) (.int 1))) (.glob .boundary)))) (bdy (callAt defs (m + 10)) R (.cons (.asg 2 (.call .undoRow (.cons (.v 0) (.cons (.v 1) (.cons (.v 2) .nil))))) .nil)) (n + 1)
      [some (.ref .buf b), some (.lst (rows.map rowV)), some (.int (pre.length + n : Nat))] H N := by
  intro x_
  induction x_ generalizing rest with
  | zero =>
    intro G hG nG H pt tk ct T new B hh nb hg hr hl h
    obtain rfl := List.length_eq_zero_iff.mp hG
    obtain ⟨_, rfl⟩ := hg
    have e := h H pt tk ct new B hh nb (by simp) (by (first | lia | omega)) Keep.refl
    refine whl_step ?_
    refine @bc _ fun k_ => ?_
    rcases List.eq_nil_or_concat pre with rfl | ⟨l, a, rfl⟩ <;> (apply k_; clear k_)
    · (walk_at "uus")
      exact e
    · simp only [List.concat_eq_append] at hpre hr e ⊢
      have hlen : (l ++ [a]).length = l.length + 1 := by simp
      have ha : isB a = true := by simpa [atB] using hpre
      have ga : rows[l.length]? = some a := by rw [hr]; simp
      (walk_at "uus")
      refine o_idxL (rowAt ga (by (first | lia | omega))) ?_
      (walk_at "uus")
      refine ne_bnd a ?_
      rw [ha]
      (walk_at "uus")
      exact e
  | succ n ih =>
    intro G hG nG H pt tk ct T new B hh nb hg hr hl h
    refine whl_step ?_
    refine @bc _ fun k_ => ?_
    rcases List.eq_nil_or_concat G with rfl | ⟨l, a, rfl⟩ <;> (apply k_; clear k_)
    · cases hG
    simp only [List.concat_eq_append] at hG nG hg hr h
    have hlen : l.length = n := by simpa using hG
    refine @bc _ fun k_ => ?_
    obtain ⟨T', h1, s⟩ := hg.last
    apply k_; clear k_
    have ha : isB a = false := nG a (by simp)
    have ga : rows[pre.length + n]? = some a := by rw [hr, ← hlen]; simp
    (walk_at "uus")
    refine o_idxL (rowAt ga (by (first | lia | omega))) ?_
    (walk_at "uus")
    refine ne_bnd a ?_
    rw [ha]
    (walk_at "uus")
    refine undoRow_s B hb0 hh nb s h1.ok2 ha (at_ := pre.length + (n + 1)) (by (first | lia | omega)) (by (first | lia | omega)) ga (by (first | lia | omega)) fun H' pt' tk' ct' new' B' hh' nb' hne hlen' k' => ?_
    (walk_at "uus")
    have e : ((pre.length + (n + 1) : Nat) : Int) - 1 = (pre.length + n : Nat) := by (first | lia | omega)
    rw [e]
    refine ih (rest := a :: rest) l hlen (fun x hx => nG x (List.mem_append_left _ hx)) B' hh' nb' h1 (by rw [hr]; simp) (by (first | lia | omega)) fun H2 pt2 tk2 ct2 new2 B2 hh2 nb2 hne2 hlen2 k2 => ?_
    refine h _ _ _ _ new2 B2 hh2 nb2 (fun _ => hne2 (.inl hne)) (by (first | lia | omega)) (k'.trans k2)
theorem undoGroup_s {base : List Row} {T0 Tp : List Int} (hb0 : atB base = true) {pre G rest : List Row} (hpre : atB pre = true) (nG : noB G) (B : BOk H b t pt tk ct T (some (u, r, base))) (hg : Hist Tp G T) (hr : rows = pre ++ (G ++ rest)) (hl : base.length + G.length ≤ 99999)
    {n : Nat} {x : Int} (hx : x = n) (hn : n ≤ rows.length) (hab : abv rows n = pre.length + G.length)
    (h : ∀ H' pt' tk' ct' new', BOk H' b t pt' tk' ct' Tp (some (u, r, base ++ new')) → Hist T new' Tp → noB new' → (G ≠ [] → new' ≠ []) → new'.length ≤ G.length → Keep btags H H' → Q (.int pre.length) H') {m : Nat} :
    callAt defs (m + 11) .undoGroup [.ref .buf b, .lst (rows.map rowV), .int x] H Q X := by
  refine call_open rfl ?_
  show wpSL _ _ _ ir_undoGroup [some (.ref .buf b), some (.lst (rows.map rowV)), some (.int x)] _ _
  (walk_at "uus")
  refine above_s hx hn ?_
  rw [hab]
  (walk_at "uu"); trace_state
  refine s_whl' ⟨G.length + 1, undo_loop (new := []) (T0 := T) hb0 hpre G.length G rfl nG (by simpa using B) ⟨hg.ok2, rfl⟩ (by intro a ha; cases ha) hg hr (by simp; (first | lia | omega)) fun H' pt' tk' ct' new' B' hh' nb' hne hlen k' => ?_⟩
  (walk_at "uus")
  exact h _ _ _ _ new' B' hh' nb' (fun z => hne (.inr z)) (by simpa using hlen) k'
end
set_option backward.match.sparseCases false
inductive W | same | new | gone
  deriving DecidableEq
noncomputable abbrev Sts := List (W × Nat)
noncomputable def wv : W → Word
  | .same => .same
  | .new => .new
  | .gone => .gone
noncomputable def stV (x : W × Nat) : V := .lst [.str (wv x.1), .int x.2]
noncomputable def spl : Nat → Sts → Sts × Sts
  | 0, S => ([], S)
  | _ + 1, [] => ([], [])
  | k + 1, (w, n) :: S => if w = .new then ((w, n) :: (spl (k + 1) S).1, (spl (k + 1) S).2) else if k + 1 < n then ([(w, k + 1)], (w, n - (k + 1)) :: S) else ((w, n) :: (spl (k + 1 - n) S).1, (spl (k + 1 - n) S).2)
noncomputable def hrN : Sts → Nat
  | [] => 0
  | (w, n) :: S => (if w = .gone then 0 else n) + hrN S
theorem hrN_app : ∀ a b, hrN (a ++ b) = hrN a + hrN b
  | [], b => by simp [hrN]
  | (w, n) :: a, b => by simp only [List.cons_append, hrN, hrN_app a b]; (first | lia | omega)
noncomputable abbrev besV (c : Nat) (s e : Int) : O := .inst .beside [.ref .strs c, .int s, .int e]
noncomputable abbrev strsV (S : Sts) : O := .list (S.map stV)
section
variable {H : St} {Q : V → St → Prop} {X : St → Prop} {a c : Nat} {s e : Int} {S : Sts}
theorem stAt {S : Sts} {x : W × Nat} {n : Nat} {k : Int} (h : S[n]? = some x) (hk : k = n) : getAt (S.map stV) k = some (stV x) := by
  rw [getAt_nat hk, List.getElem?_map, h]; rfl
theorem spl_set {P R : Sts} {x : W × Nat} {k : Int} {D : Sts} (hk : k = P.length) : setSlice ((P ++ x :: R).map stV) k (k + 1) (D.map stV) = (P ++ (D ++ R)).map stV := by
  have := set_mid (A := P.map stV) (B := [stV x]) (C := R.map stV) (D := D.map stV) (lo := k) (hi := k + 1) (by simpa using hk) (by simp; (first | lia | omega))
  simpa using this
theorem wv_new (w : W) : decide (wv w = .new) = decide (w = .new) := by cases w <;> rfl
theorem wv_same (w : W) : decide (wv w = .same) = decide (w = .same) := by cases w <;> rfl
theorem wv_gone (w : W) : decide (wv w = .gone) = decide (w = .gone) := by cases w <;> rfl
noncomputable abbrev splT : E := .and_ (.op2 .lt (.v 2) (.op1 .len (.op1 (.fld .beside 0) (.v 0)))) (.op2 .gt (.v 3) (.int 0))
noncomputable abbrev splB : SL := (.cons (.asgT [4, 5] (.op2 .idx (.op1 (.fld .beside 0) (.v 0)) (.v 2)))
    (.cons (.ite (.op2 .ne (.v 4) (.word .new))
      (.cons (.ite (.op2 .gt (.v 5) (.v 3))
      (.cons (.setS (.op1 (.fld .beside 0) (.v 0)) (.v 2) (.op2 .add (.v 2) (.int 1)) (.frz (.disp (.cons (.frz (.disp (.cons (.v 4) (.cons (.v 3) .nil)))) (.cons (.frz (.disp (.cons (.v 4) (.cons (.op2 .sub (.v 5) (.v 3)) .nil)))) .nil)))))
    (.cons (.asg 5 (.v 3))
    .nil))
      .nil)
    (.cons (.asg 3 (.op2 .sub (.v 3) (.v 5)))
    .nil))
      .nil)
    (.cons (.asg 2 (.op2 .add (.v 2) (.int 1)))
    .nil)))
theorem spl_loop0 {C : CallT} {R : V → St → Prop} {N : Loc → St → Prop} {off : V} (Rm P : Sts) (f : Nat) {H : St} {o4 o5 : Option V} (hb : H .bes = some (a, besV c s e)) (hs : H .strs = some (c, strsV (P ++ Rm))) (hl : P.length + Rm.length ≤ 100001)
  (h : ∀ o3 o4' o5', N [some (.ref .bes a), some off, some (.int P.length), some o3, o4', o5'] H) :
  whlRec (tst C splT) (bdy C R splB) (f + 1) [some (.ref .bes a), some off, some (.int P.length), some (.int (0 : Nat)), o4, o5] H N := by
  refine whl_step ?_
  (walk_at "uus")
  by_cases q : P.length < (List.map stV (P ++ Rm)).length
  · (walk_at "uus")
    exact h _ _ _
  · (walk_at "uus")
    exact h _ _ _
theorem spl_loop {C : CallT} {R : V → St → Prop} {N : Loc → St → Prop} {off : V} : ∀ (Rm P : Sts) (k : Nat) {H : St} {o4 o5 : Option V}, H .bes = some (a, besV c s e) → H .strs = some (c, strsV (P ++ Rm)) → P.length + Rm.length ≤ 100000 →
    (∀ H' o3 o4' o5', H' .strs = some (c, strsV (P ++ ((spl k Rm).1 ++ (spl k Rm).2))) → Keep [.strs] H H' → N [some (.ref .bes a), some off, some (.int (P.length + (spl k Rm).1.length : Nat)), some o3, o4', o5'] H') →
    whlRec (tst C splT) (bdy C R splB) (Rm.length + 2) [some (.ref .bes a), some off, some (.int P.length), some (.int k), o4, o5] H N := by
  intro Rm
  induction Rm with
  | nil =>
    intro P k H o4 o5 hb hs hl h
    cases k with
    | zero =>
      refine spl_loop0 _ P _ hb hs (by simp only [List.length_cons, List.length_nil] at hl ⊢; (first | lia | omega)) fun o3 o4' o5' => ?_
      simpa [spl] using h H o3 o4' o5' (by simpa [spl] using hs) Keep.refl
    | succ k =>
      refine whl_step ?_
      (walk_at "uus")
      simpa [spl] using h H (.int (k + 1 : Nat)) o4 o5 (by simpa [spl] using hs) Keep.refl
  | cons x Rm ih =>
    obtain ⟨w, n⟩ := x
    intro P k H o4 o5 hb hs hl h
    cases k with
    | zero =>
      refine spl_loop0 _ P _ hb hs (by simp only [List.length_cons, List.length_nil] at hl ⊢; (first | lia | omega)) fun o3 o4' o5' => ?_
      simpa [spl] using h H o3 o4' o5' (by simpa [spl] using hs) Keep.refl
    | succ k =>
      refine whl_step ?_
      simp only [List.length_cons] at hl
      have hlen : (List.map stV (P ++ (w, n) :: Rm)).length = P.length + (Rm.length + 1) := by simp
      have ga : (P ++ (w, n) :: Rm)[P.length]? = some (w, n) := by simp
      (walk_at "uus")
      refine o_idx hs (stAt ga rfl) ?_
      (walk_at "uus")
      rw [wv_new]
      have e1 : ((P.length : Int) + 1) = ((P ++ [(w, n)]).length : Nat) := by simp
      by_cases c1 : w = .new
      · subst c1
        (walk_at "uus")
        rw [e1]
        show whlRec (tst C splT) (bdy C R splB) (Rm.length + 2) [some (.ref .bes a), some off, some (.int ((P ++ [((.new : W), n)]).length : Nat)), some (.int (k + 1 : Nat)), some (.str (wv .new)), some (.int n)] H N
        have q := @ih (P ++ [((.new : W), n)]) (k + 1) H (some (.str (wv .new))) (some (.int n)) hb (by simpa using hs) (by simp; (first | lia | omega))
        refine q fun H' o3 o4' o5' h1 k1 => ?_
        have h' := h H' o3 o4' o5' (by simpa [spl] using h1) k1
        simpa [spl, Nat.add_assoc, Nat.add_comm, Nat.add_left_comm] using h'
      · rw [decide_eq_false c1]
        (walk_at "uus")
        by_cases c2 : k + 1 < n
        · (walk_at "uus")
          refine o_setS hs ?_ ?_
          · rw [hlen]; simp; apply lim_big; (first | lia | omega)
          have q := spl_set (P := P) (R := Rm) (x := (w, n)) (k := P.length) (D := [(w, k + 1), (w, n - (k + 1))]) rfl
          have e2 : [V.lst [.str (wv w), .int ((k + 1 : Nat) : Int)], V.lst [.str (wv w), .int ((n : Int) - ((k + 1 : Nat) : Int))]] = [(w, k + 1), (w, n - (k + 1))].map stV := by
            have : ((n - (k + 1) : Nat) : Int) = (n : Int) - ((k + 1 : Nat) : Int) := by (first | lia | omega)
            simp only [stV, List.map, this]
          rw [e2, q]
          (walk_at "uus")
          have e3 : (((k + 1 : Nat) : Int) - ((k + 1 : Nat) : Int)) = (0 : Nat) := by (first | lia | omega)
          rw [e3]
          have e4 : ((P.length : Int) + 1) = ((P ++ [(w, k + 1)]).length : Nat) := by simp
          rw [e4]
          refine spl_loop0 (s := s) (e := e) (c := c) ((w, n - (k + 1)) :: Rm) (P ++ [(w, k + 1)]) (Rm.length + 1) ?_ ?_ ?_ fun o3 o4' o5' => ?_
          · rw [upd_ne _ _ (by decide)]; exact hb
          · rw [upd_same]; simp
          · simp; (first | lia | omega)
          · have h' := h (upd H .strs (some (c, strsV (P ++ ([(w, k + 1), (w, n - (k + 1))] ++ Rm))))) o3 o4' o5' (by rw [upd_same]; simp [spl, c1, c2]) (Keep.refl.upd (by decide))
            simpa [spl, c1, c2, strsV] using h'
        · (walk_at "uus")
          have e3 : (((k + 1 : Nat) : Int) - (n : Int)) = ((k + 1 - n : Nat) : Int) := by (first | lia | omega)
          rw [e3, e1]
          show whlRec (tst C splT) (bdy C R splB) (Rm.length + 2) [some (.ref .bes a), some off, some (.int ((P ++ [(w, n)]).length : Nat)), some (.int (k + 1 - n : Nat)), some (.str (wv w)), some (.int n)] H N
          have q := @ih (P ++ [(w, n)]) (k + 1 - n) H (some (.str (wv w))) (some (.int n)) hb (by simpa using hs) (by simp; (first | lia | omega))
          refine q fun H' o3 o4' o5' h1 k1 => ?_
          have h' := h H' o3 o4' o5' (by simpa [spl, c1, c2] using h1) k1
          simpa [spl, c1, c2, Nat.add_assoc, Nat.add_comm, Nat.add_left_comm] using h'
theorem splitThere_s (hb : H .bes = some (a, besV c s e)) (hs : H .strs = some (c, strsV S)) (hl : S.length ≤ 100000) {k : Nat} {x : Int} (hx : x = k)
    (h : ∀ H', H' .strs = some (c, strsV ((spl k S).1 ++ (spl k S).2)) → Keep [.strs] H H' → Q (.int (spl k S).1.length) H') {m : Nat} : callAt defs (m + 1) .splitThere [.ref .bes a, .int x] H Q X := by
  subst hx
  refine call_open rfl ?_
  show wpSL _ _ _ ir_splitThere [some (.ref .bes a), some (.int k), .none, .none, .none, .none] _ _
  unfold ir_splitThere
  iterate 6 (walk_at "uu")
  refine s_whl' ⟨S.length + 2, spl_loop S [] k hb (by simpa using hs) (by simpa using hl) fun H' o3 o4 o5 h1 k1 => ?_⟩
  (walk_at "uus")
  simpa using h H' (by simpa using h1) k1
noncomputable def hereB : W × Nat → Bool := fun x => decide (x.1 ≠ .gone)
theorem comp_here : ∀ S : Sts, compRun H (.v 1) (.op2 .ne (.v 0) (.word .gone)) 2 (S.map stV) = some (iv ((S.filter hereB).map fun x => (x.2 : Int))) := by
  intro x_
  induction x_ with
  | nil =>
    exact rfl
  | cons x_ S ih =>
    obtain ⟨w, n⟩ := x_
    cases w <;> (simp only [List.map, compRun_cons]; simp [stV, binds1, unpackOf, evP_v, evP_int, evP_word, evP_bool, evP_op1, evP_op2, evP_disp, ev2, eqH_str, eqV_str, wv, hereB, ih, iv])
theorem sum_here : ∀ S : Sts, ((S.filter hereB).map fun x => (x.2 : Int)).sum = hrN S
  | [] => rfl
  | (w, n) :: S => by
    have ih := sum_here S
    by_cases q : w = .gone
    · subst q; simpa [hereB, hrN] using ih
    · simp [hereB, hrN, q] at ih ⊢; (first | lia | omega)
theorem hereAt_s (hb : H .bes = some (a, besV c s e)) {S1 S2 : Sts} (hs : H .strs = some (c, strsV (S1 ++ S2))) (hl : (S1 ++ S2).length ≤ 100000) {x : Int} (hx : x = S1.length)
    (h : Q (.int (1 + (hrN S1 : Nat))) H) {m : Nat} : callAt defs (m + 1) .hereAt [.ref .bes a, .int x] H Q X := by
  subst hx
  simp only [List.length_append] at hl
  have hf : (S1.filter hereB).length ≤ S1.length := List.length_filter_le _ _
  refine call_open rfl ?_
  show wpSL _ _ _ ir_hereAt [some (.ref .bes a), some (.int S1.length)] _ _
  unfold ir_hereAt
  (walk_at "uus")
  have q : (List.map stV (S1 ++ S2)).take (clip (List.map stV (S1 ++ S2)).length S1.length) = S1.map stV := by
    rw [clip_of (m := S1.length) rfl (by simp)]
    simp
  rw [q]
  refine optP_of (comp_here S1) ?_
  refine ⟨by rw [iv_len]; simp; apply lim_big; (first | lia | omega), ?_⟩
  refine optP_of (x := .int (hrN S1)) (by simp only [ev1, lstV_lst, Option.bind_some, intsV_iv, Option.map_some, sum_here]) ?_
  (walk_at "uus")
  exact h
noncomputable def rng (p n : Nat) (S : Sts) : Sts × Sts × Sts × Sts :=
  let x := spl p S
  let y := spl n x.2
  (x.1, y.1.takeWhile (fun z => decide (z.1 = .new)), y.1.dropWhile (fun z => decide (z.1 = .new)), y.2)
theorem skip_loop {C : CallT} {R : V → St → Prop} {N : Loc → St → Prop} {o1 o2 : Option V} (hb : H .bes = some (a, besV c s e)) : ∀ (M P R2 : Sts), H .strs = some (c, strsV (P ++ (M ++ R2))) →
    N [some (.ref .bes a), o1, o2, some (.int (P.length + M.length : Nat)), some (.int (P.length + (M.takeWhile (fun z => decide (z.1 = .new))).length : Nat))] H →
    whlRec (tst C (.and_ (.op2 .lt (.v 4) (.v 3)) (.op2 .eq (.op2 .idx (.op2 .idx (.op1 (.fld .beside 0) (.v 0)) (.v 4)) (.int 0)) (.word .new)))) (bdy C R (.cons (.asg 4 (.op2 .add (.v 4) (.int 1))) .nil)) (M.length + 1)
      [some (.ref .bes a), o1, o2, some (.int (P.length + M.length : Nat)), some (.int P.length)] H N := by
  intro x_
  induction x_ with
  | nil =>
    intro P R2 hs h
    refine whl_step ?_
    (walk_at "uus")
    simpa using h
  | cons x_ M ih =>
    obtain ⟨w, n⟩ := x_
    intro P R2 hs h
    refine whl_step ?_
    have ga : (P ++ ((w, n) :: M ++ R2))[P.length]? = some (w, n) := by simp
    (walk_at "uus")
    refine o_idx hs (stAt ga rfl) ?_
    (walk_at "uus")
    rw [wv_new]
    by_cases q : w = .new
    · subst q
      (walk_at "uus")
      have e1 : ((P.length : Int) + 1) = ((P ++ [((.new : W), n)]).length : Nat) := by simp
      have e2 : (P.length + ((W.new, n) :: M).length : Nat) = (P ++ [((.new : W), n)]).length + M.length := by simp; (first | lia | omega)
      rw [e1, e2]
      refine ih (P ++ [(.new, n)]) R2 (by simpa using hs) ?_
      rw [← e2]
      have e3 : (P ++ [((.new : W), n)]).length + (M.takeWhile (fun z => decide (z.1 = .new))).length = P.length + (((W.new, n) :: M).takeWhile (fun z => decide (z.1 = .new))).length := by simp; (first | lia | omega)
      rw [e3]
      exact h
    · rw [decide_eq_false q]
      (walk_at "uus")
      simpa [List.takeWhile, q] using h
end
set_option backward.match.sparseCases false
noncomputable def thN : Sts → Nat
  | [] => 0
  | (w, n) :: S => (if w = .new then 0 else n) + thN S
theorem thN_app : ∀ a b, thN (a ++ b) = thN a + thN b
  | [], b => by simp [thN]
  | (w, n) :: a, b => by simp only [List.cons_append, thN, thN_app a b]; (first | lia | omega)
theorem spl_len : ∀ (k : Nat) (S : Sts), (spl k S).1.length + (spl k S).2.length ≤ S.length + 1
  | 0, S => by simp [spl]
  | k + 1, [] => by simp [spl]
  | k + 1, (w, n) :: S => by
    unfold spl
    split
    · have := spl_len (k + 1) S
      simp; (first | lia | omega)
    · split
      · simp; (first | lia | omega)
      · have := spl_len (k + 1 - n) S
        simp; (first | lia | omega)
theorem spl_th : ∀ (k : Nat) (S : Sts), k ≤ thN S → thN (spl k S).1 = k ∧ thN (spl k S).1 + thN (spl k S).2 = thN S
  | 0, S, h => by simp [spl, thN]
  | k + 1, [], h => by simp [thN] at h
  | k + 1, (w, n) :: S, h => by
    unfold spl
    split
    · rename_i c
      simp only [thN, c, if_true] at h ⊢
      have := spl_th (k + 1) S (by (first | lia | omega))
      (first | lia | omega)
    · rename_i c
      simp only [thN, c, if_false] at h
      split
      · constructor
        · simp [thN, c]
        · simp [thN, c]; (first | lia | omega)
      · have := spl_th (k + 1 - n) S (by (first | lia | omega))
        simp only [thN, c, if_false]; (first | lia | omega)
theorem spl_stable : ∀ (p n : Nat) (S Y : Sts), p ≤ thN S → spl (p + n) ((spl p S).1 ++ Y) = ((spl p S).1 ++ (spl n Y).1, (spl n Y).2)
  | 0, n, S, Y, h => by simp [spl]
  | p + 1, n, [], Y, h => by simp [thN] at h
  | p + 1, n, (w, k) :: S, Y, h => by
    have e0 : p + 1 + n = (p + n) + 1 := by (first | lia | omega)
    by_cases c : w = .new
    · subst c
      simp only [thN, if_true] at h
      have ih := spl_stable (p + 1) n S Y (by (first | lia | omega))
      rw [e0] at ih ⊢
      simp only [spl, if_true, List.cons_append, ih]
    · simp only [thN, c, if_false] at h
      by_cases c2 : p + 1 < k
      · rw [e0]
        simp only [spl, c, c2, if_false, if_true, List.cons_append, List.nil_append]
        rw [if_neg (by (first | lia | omega))]
        have : p + n + 1 - (p + 1) = n := by (first | lia | omega)
        rw [this]
      · have ih := spl_stable (p + 1 - k) n S Y (by (first | lia | omega))
        have e1 : p + n + 1 - k = p + 1 - k + n := by (first | lia | omega)
        rw [e0]
        simp only [spl, c, c2, if_false, List.cons_append]
        rw [if_neg (by (first | lia | omega)), e1, ih]
theorem tw_dw (S : Sts) : S.takeWhile (fun z => decide (z.1 = .new)) ++ S.dropWhile (fun z => decide (z.1 = .new)) = S := List.takeWhile_append_dropWhile
noncomputable def news (M : Sts) : Sts := (M.filter hereB).map fun x => (.new, x.2)
noncomputable def neSame : W × Nat → Bool := fun x => decide (x.1 ≠ .same)
noncomputable def untB (M : Sts) : Bool := !M.isEmpty && (M.filter neSame).isEmpty
section
variable {H : St} {Q : V → St → Prop} {X : St → Prop} {a c : Nat} {s e : Int} {S : Sts}
theorem rangeThere_s (hb : H .bes = some (a, besV c s e)) (hs : H .strs = some (c, strsV S)) (hl : S.length ≤ 90000) {p n : Nat} {x y : Int} (hx : x = p + 1) (hy : y = p + n + 1) (hp : p + n ≤ thN S)
    {Sa Nw M Sr : Sts} (hr : rng p n S = (Sa, Nw, M, Sr))
    (h : ∀ H', H' .strs = some (c, strsV (Sa ++ (Nw ++ (M ++ Sr)))) → Keep [.strs] H H' → Q (.tup [.int (Sa.length + Nw.length : Nat), .int (Sa.length + (Nw.length + M.length) : Nat)]) H') {m : Nat} : callAt defs (m + 2) .rangeThere [.ref .bes a, .int x, .int y] H Q X := by
  have l1 := spl_len p S
  refine call_open rfl ?_
  show wpSL _ _ _ ir_rangeThere [some (.ref .bes a), some (.int x), some (.int y), .none, .none] _ _
  unfold ir_rangeThere
  (walk_at "uus")
  refine splitThere_s hb hs (by (first | lia | omega)) (k := p) (by (first | lia | omega)) fun H1 h1 k1 => ?_
  have hb1 := (k1 .bes (by decide)).trans hb
  (walk_at "uus")
  refine splitThere_s hb1 h1 (by simp; (first | lia | omega)) (k := p + n) (by (first | lia | omega)) fun H2 h2 k2 => ?_
  have hb2 := (k2 .bes (by decide)).trans hb1
  rw [spl_stable p n S _ (by (first | lia | omega))] at h2 ⊢
  have l2 := spl_len n (spl p S).2
  simp only [List.append_assoc] at h2
  (walk_at "uus")
  refine splitThere_s hb2 h2 (by simp; (first | lia | omega)) (k := p) (by (first | lia | omega)) fun H3 h3 k3 => ?_
  have hb3 := (k3 .bes (by decide)).trans hb2
  have e3 := spl_stable p 0 S ((spl n (spl p S).2).1 ++ (spl n (spl p S).2).2) (by (first | lia | omega))
  simp only [Nat.add_zero, spl, List.append_nil] at e3
  rw [e3] at h3 ⊢
  simp only [rng, Prod.mk.injEq] at hr
  refine @bc _ fun k_ => ?_
  obtain ⟨r1, r2, r3, r4⟩ := hr
  apply k_; clear k_
  have e4 : Nw ++ M = (spl n (spl p S).2).1 := by rw [← r2, ← r3]; exact tw_dw _
  have e5 : (spl n (spl p S).2).1.length = Nw.length + M.length := by rw [← e4]; simp
  iterate 2 (walk_at "uu")
  refine s_whl' ⟨(spl n (spl p S).2).1.length + 1, ?_⟩
  have e6 : ((((spl p S).1 ++ (spl n (spl p S).2).1).length : Nat) : Int) = ((spl p S).1.length + (spl n (spl p S).2).1.length : Nat) := by simp
  rw [e6]
  refine skip_loop hb3 (spl n (spl p S).2).1 (spl p S).1 (spl n (spl p S).2).2 h3 ?_
  (walk_at "uus")
  rw [r1, r2, e5]
  refine h H3 ?_ ((k1.trans k2).trans k3)
  rw [h3, ← r4, r1, ← e4]
  simp
theorem comp_same : ∀ S : Sts, compRun H (.int 1) (.op2 .ne (.v 0) (.word .same)) 2 (S.map stV) = some ((S.filter neSame).map fun _ => .int 1) := by
  intro x_
  induction x_ with
  | nil =>
    exact rfl
  | cons x_ S ih =>
    obtain ⟨w, n⟩ := x_
    cases w <;> (simp only [List.map, compRun_cons]; simp [stV, binds1, unpackOf, evP_v, evP_int, evP_word, evP_bool, evP_op1, evP_op2, evP_disp, ev2, eqH_str, eqV_str, wv, neSame, ih])
theorem comp_news : ∀ S : Sts, compRun H (.frz (.disp (.cons (.word .new) (.cons (.v 1) .nil)))) (.op2 .ne (.v 0) (.word .gone)) 2 (S.map stV) = some ((news S).map stV) := by
  intro x_
  induction x_ with
  | nil =>
    exact rfl
  | cons x_ S ih =>
    obtain ⟨w, n⟩ := x_
    unfold news at ih ⊢
    cases w <;> (simp only [List.map, compRun_cons]; simp [stV, binds1, unpackOf, evP_v, evP_int, evP_word, evP_bool, evP_op1, evP_op2, evP_disp, evPs_nil, evPs_cons, ev2, eqH_str, eqV_str, wv, hereB, ih, lim])
theorem eq_nil {ys : List V} {P : V → Prop} (q : P (.bool ys.isEmpty)) : optP (ev2 H .eq (.lst ys) (.lst [])) P := by
  cases ys with
  | nil => exact q
  | cons y ys => exact q
theorem ne_nil {ys : List V} {P : V → Prop} (q : P (.bool (!ys.isEmpty))) : optP (ev2 H .ne (.lst ys) (.lst [])) P := by
  cases ys with
  | nil => exact q
  | cons y ys => exact q
theorem slc_st {A M B : Sts} {lo hi : Int} (h1 : lo = A.length) (h2 : hi = A.length + M.length) : pySlice ((A ++ (M ++ B)).map stV) lo hi = M.map stV := by
  rw [List.map_append, List.map_append, slc_mid (by simpa using h1) (by simpa using h2)]
theorem set_st {A M B D : Sts} {lo hi : Int} (h1 : lo = A.length) (h2 : hi = A.length + M.length) : setSlice ((A ++ (M ++ B)).map stV) lo hi (D.map stV) = (A ++ (D ++ B)).map stV := by
  rw [List.map_append, List.map_append, set_mid (by simpa using h1) (by simpa using h2)]; simp
theorem isUntouched_s (hb : H .bes = some (a, besV c s e)) {A M B : Sts} (hs : H .strs = some (c, strsV (A ++ (M ++ B)))) (hl : (A ++ (M ++ B)).length ≤ 100000) {x y : Int} (hx : x = A.length) (hy : y = A.length + M.length)
    (h : Q (.bool (untB M)) H) {m : Nat} : callAt defs (m + 1) .isUntouched [.ref .bes a, .int x, .int y] H Q X := by
  simp only [List.length_append] at hl
  have hf : (M.filter neSame).length ≤ M.length := List.length_filter_le _ _
  refine call_open rfl ?_
  show wpSL _ _ _ ir_isUntouched [some (.ref .bes a), some (.int x), some (.int y)] _ _
  unfold ir_isUntouched
  cases M with
  | nil =>
    simp only [List.length_nil] at hy
    (walk_at "uus")
    exact h
  | cons z M =>
    simp only [List.length_cons] at hy hl hf
    (walk_at "uus")
    rw [slc_st hx (by simp; (first | lia | omega))]
    (walk_at "uus")
    refine optP_of (comp_same _) ?_
    (walk_at "uus")
    refine eq_nil ?_
    (walk_at "uus")
    simpa [untB] using h
theorem rng_len {p n : Nat} {S Sa Nw M Sr : Sts} (hr : rng p n S = (Sa, Nw, M, Sr)) : Sa.length + Nw.length + M.length + Sr.length ≤ S.length + 2 := by
  simp only [rng, Prod.mk.injEq] at hr
  refine @bc _ fun k_ => ?_
  obtain ⟨r1, r2, r3, r4⟩ := hr
  apply k_; clear k_
  have l1 := spl_len p S
  have l2 := spl_len n (spl p S).2
  have e4 : Nw ++ M = (spl n (spl p S).2).1 := by rw [← r2, ← r3]; exact tw_dw _
  have e5 : (spl n (spl p S).2).1.length = Nw.length + M.length := by rw [← e4]; simp
  rw [r1] at l1; rw [r4] at l2
  (first | lia | omega)
theorem news_len (M : Sts) : (news M).length ≤ M.length := by simp [news]; exact List.length_filter_le _ _
theorem undoneInsert_s (hb : H .bes = some (a, besV c s e)) (hs : H .strs = some (c, strsV S)) (hl : S.length ≤ 40000) {p n : Nat} (hp : p + n ≤ thN S)
    {Sa Nw M Sr : Sts} (hr : rng p n S = (Sa, Nw, M, Sr))
    (h1 : untB M = true → s ≤ 1 + (hrN (Sa ++ Nw) : Nat) → 1 + (hrN (Sa ++ Nw) : Nat) + (n : Int) ≤ e → ∀ H', H' .bes = some (a, besV c s (e - n)) → H' .strs = some (c, strsV ((Sa ++ Nw) ++ Sr)) → Keep [.bes, .strs] H H' → Q (rowV (.ins (hrN (Sa ++ Nw)) n)) H')
    (h2 : ¬ (untB M = true ∧ s ≤ 1 + (hrN (Sa ++ Nw) : Nat) ∧ 1 + (hrN (Sa ++ Nw) : Nat) + (n : Int) ≤ e) → ∀ H', H' .bes = some (a, besV c s e) → H' .strs = some (c, strsV ((Sa ++ Nw) ++ (news M ++ Sr))) → Keep [.bes, .strs] H H' → Q .none H') {m : Nat} : callAt defs (m + 3) .undoneInsert [.ref .bes a, rowV (.ins p n)] H Q X := by
  have rl := rng_len hr
  have nl := news_len M
  refine call_open rfl ?_
  show wpSL _ _ _ ir_undoneInsert [some (.ref .bes a), some (.tup [.str .insert, .int (p + 1), .int (p + 1 + n)]), .none, .none, .none, .none] _ _
  (walk_at "uus")
  refine rangeThere_s hb hs (by (first | lia | omega)) (p := p) (n := n) rfl (by (first | lia | omega)) hp hr fun H1 g1 k1 => ?_
  have hb1 := (k1 .bes (by decide)).trans hb
  have g1' : H1 .strs = some (c, strsV ((Sa ++ Nw) ++ (M ++ Sr))) := by rw [g1]; simp
  have el : (Sa ++ Nw).length = Sa.length + Nw.length := by simp
  (walk_at "uus")
  refine hereAt_s hb1 g1' (by simp; (first | lia | omega)) (by rw [el]) ?_
  (walk_at "uus")
  refine isUntouched_s hb1 g1' (by simp; (first | lia | omega)) (by rw [el]) (by rw [el]; (first | lia | omega)) ?_
  have en : ((p : Int) + 1 + n - (p + 1)) = n := by (first | lia | omega)
  rw [en]
  have k0 : Keep [.bes, .strs] H H1 := k1.mono (by decide)
  have els : ∀ (q : ¬ (untB M = true ∧ s ≤ 1 + (hrN (Sa ++ Nw) : Nat) ∧ 1 + (hrN (Sa ++ Nw) : Nat) + (n : Int) ≤ e)) (o2 o3 : Option V),
      wpSL (callAt defs (m + 2)) X Q (.cons (.setS (.op1 (.fld .beside 0) (.v 0)) (.v 4) (.v 5) (.frz (.comp (.frz (.disp (.cons (.word .new) (.cons (.v 1) .nil)))) (.op2 .ne (.v 0) (.word .gone)) 2 (.frz (.slc (.op1 (.fld .beside 0) (.v 0)) (.v 4) (.v 5)))))) (.cons (.ret .none) .nil))
        [some (.ref .bes a), some (.tup [.str .insert, .int (p + 1), .int (p + 1 + n)]), o2, o3, some (.int (Sa.length + Nw.length : Nat)), some (.int (Sa.length + (Nw.length + M.length) : Nat))] H1 fun _ H => Q .none H := by
    intro q o2 o3
    (walk_at "uus")
    rw [slc_st (by rw [el]) (by rw [el]; (first | lia | omega))]
    refine ⟨by simp; apply lim_big; (first | lia | omega), ?_⟩
    (walk_at "uus")
    refine optP_of (comp_news _) ?_
    refine ⟨by simp; apply lim_big; (first | lia | omega), ?_⟩
    (walk_at "uus")
    refine o_setS g1' (by simp; apply lim_big; (first | lia | omega)) ?_
    rw [set_st (by rw [el]) (by rw [el]; (first | lia | omega))]
    (walk_at "uus")
    refine h2 q _ ?_ (upd_same _ _ _) (k0.upd (by decide))
    rw [upd_ne _ _ (by decide)]; exact hb1
  (walk_at "uus")
  refine b_any (fun c1 => ?_) (fun c1 => ?_)
  · (walk_at "uus")
    refine b_two (fun c2 => ?_) (fun c2 => ?_)
    · (walk_at "uus")
      refine b_two (fun c3 => ?_) (fun c3 => ?_)
      · (walk_at "uus")
        refine o_setS g1' (by simp; apply lim_big; (first | lia | omega)) ?_
        have := set_st (A := Sa ++ Nw) (M := M) (B := Sr) (D := []) (lo := (Sa.length + Nw.length : Nat)) (hi := (Sa.length + (Nw.length + M.length) : Nat)) (by rw [el]) (by rw [el]; (first | lia | omega))
        simp only [List.map_nil, List.nil_append] at this
        rw [this]
        have hb2 : upd H1 .strs (some (c, strsV ((Sa ++ Nw) ++ Sr))) .bes = some (a, besV c s e) := by rw [upd_ne _ _ (by decide)]; exact hb1
        (walk_at "uus")
        have e5 : ∀ z : V, V.tup [.str .insert, .int (1 + (hrN (Sa ++ Nw) : Nat)), .int (1 + (hrN (Sa ++ Nw) : Nat) + n)] = rowV (.ins (hrN (Sa ++ Nw)) n) := by
          intro _
          simp only [rowV]
          rw [Int.add_comm 1]
        rw [e5 .none]
        refine h1 c1 c2 c3 _ (upd_same _ _ _) ?_ ((k0.upd (by decide)).upd (by decide))
        rw [upd_ne _ _ (by decide), upd_same]
      · (walk_at "uu")
        exact els (fun q => c3 q.2.2) _ _
    · (walk_at "uu")
      exact els (fun q => c2 q.2.1) _ _
  · (walk_at "uu")
    exact els (fun q => by rw [q.1] at c1; cases c1) _ _
end
set_option backward.match.sparseCases false
noncomputable def rngD (p : Nat) (S : Sts) : Sts × Sts × Sts :=
  let x := spl p S
  (x.1, x.2.takeWhile (fun z => decide (z.1 = .new)), x.2.dropWhile (fun z => decide (z.1 = .new)))
theorem rngD_len {p : Nat} {S Sa Nw Sr : Sts} (hr : rngD p S = (Sa, Nw, Sr)) : Sa.length + Nw.length + Sr.length ≤ S.length + 1 := by
  simp only [rngD, Prod.mk.injEq] at hr
  obtain ⟨r1, r2, r3⟩ := hr
  have l1 := spl_len p S
  have e4 : Nw ++ Sr = (spl p S).2 := by rw [← r2, ← r3]; exact tw_dw _
  have e5 : (spl p S).2.length = Nw.length + Sr.length := by rw [← e4]; simp
  rw [r1] at l1
  (first | lia | omega)
section
variable {H : St} {Q : V → St → Prop} {X : St → Prop} {a c : Nat} {s e : Int} {S : Sts}
theorem skip_loop2 {C : CallT} {R : V → St → Prop} {N : Loc → St → Prop} {o1 o3 o4 : Option V} (hb : H .bes = some (a, besV c s e)) : ∀ (M P : Sts), H .strs = some (c, strsV (P ++ M)) →
    N [some (.ref .bes a), o1, some (.int (P.length + (M.takeWhile (fun z => decide (z.1 = .new))).length : Nat)), o3, o4] H →
    whlRec (tst C (.and_ (.op2 .lt (.v 2) (.op1 .len (.op1 (.fld .beside 0) (.v 0)))) (.op2 .eq (.op2 .idx (.op2 .idx (.op1 (.fld .beside 0) (.v 0)) (.v 2)) (.int 0)) (.word .new)))) (bdy C R (.cons (.asg 2 (.op2 .add (.v 2) (.int 1))) .nil)) (M.length + 1)
      [some (.ref .bes a), o1, some (.int P.length), o3, o4] H N := by
  intro M
  induction M with
  | nil =>
    intro P hs h
    refine whl_step ?_
    (walk_at "uus")
    simpa using h
  | cons x M ih =>
    obtain ⟨w, n⟩ := x
    intro P hs h
    refine whl_step ?_
    have ga : (P ++ ((w, n) :: M))[P.length]? = some (w, n) := by simp
    have gl : (List.map stV (P ++ (w, n) :: M)).length = P.length + (M.length + 1) := by simp
    (walk_at "uus")
    refine o_idx hs (stAt ga rfl) ?_
    (walk_at "uus")
    rw [wv_new]
    by_cases q : w = .new
    · subst q
      (walk_at "uus")
      have e1 : ((P.length : Int) + 1) = ((P ++ [((.new : W), n)]).length : Nat) := by simp
      rw [e1]
      have q := ih (P ++ [((.new : W), n)]) (by simpa using hs)
      refine q ?_
      have e3 : (P ++ [((.new : W), n)]).length + (M.takeWhile (fun z => decide (z.1 = .new))).length = P.length + (((W.new, n) :: M).takeWhile (fun z => decide (z.1 = .new))).length := by simp; (first | lia | omega)
      rw [e3]
      exact h
    · rw [decide_eq_false q]
      (walk_at "uus")
      simpa [List.takeWhile, q] using h
theorem undoneDelete_s (hb : H .bes = some (a, besV c s e)) (hs : H .strs = some (c, strsV S)) (hl : S.length ≤ 40000) {p : Nat} {cs : List Int} {bb : Bool}
    {Sa Nw Sr : Sts} (hr : rngD p S = (Sa, Nw, Sr))
    (h1 : s ≤ 1 + (hrN (Sa ++ Nw) : Nat) → 1 + (hrN (Sa ++ Nw) : Nat) ≤ e → ∀ H', H' .bes = some (a, besV c s (e + cs.length)) → H' .strs = some (c, strsV ((Sa ++ Nw) ++ ([(.same, cs.length)] ++ Sr))) → Keep [.bes, .strs] H H' → Q (rowV (.del (hrN (Sa ++ Nw)) cs bb)) H')
    (h2 : ¬ (s ≤ 1 + (hrN (Sa ++ Nw) : Nat) ∧ 1 + (hrN (Sa ++ Nw) : Nat) ≤ e) → ∀ H', H' .bes = some (a, besV c s e) → H' .strs = some (c, strsV ((Sa ++ Nw) ++ ([(.gone, cs.length)] ++ Sr))) → Keep [.bes, .strs] H H' → Q .none H') {m : Nat} : callAt defs (m + 3) .undoneDelete [.ref .bes a, rowV (.del p cs bb)] H Q X := by
  have rl := rngD_len hr
  refine call_open rfl ?_
  show wpSL _ _ _ ir_undoneDelete [some (.ref .bes a), some (.tup [.str .delete, .int (p + 1), .inst .piece [.lst (iv cs), .lst []], .bool bb]), .none, .none, .none] _ _
  (walk_at "uus")
  refine splitThere_s hb hs (by (first | lia | omega)) (k := p) (by (first | lia | omega)) fun H1 g1 k1 => ?_
  have hb1 := (k1 .bes (by decide)).trans hb
  simp only [rngD, Prod.mk.injEq] at hr
  refine @bc _ fun k_ => ?_
  obtain ⟨r1, r2, r3⟩ := hr
  apply k_; clear k_
  have e4 : Nw ++ Sr = (spl p S).2 := by rw [← r2, ← r3]; exact tw_dw _
  have g1' : H1 .strs = some (c, strsV ((Sa ++ Nw) ++ Sr)) := by rw [g1, ← e4, r1]; simp
  have el : (Sa ++ Nw).length = Sa.length + Nw.length := by simp
  have k0 : Keep [.bes, .strs] H H1 := k1.mono (by decide)
  (walk_at "uu")
  refine s_whl' ⟨(spl p S).2.length + 1, ?_⟩
  refine skip_loop2 hb1 (spl p S).2 (spl p S).1 g1 ?_
  rw [r1, r2]
  have st2 : ∀ (D : Sts), setSlice (((Sa ++ Nw) ++ Sr).map stV) (Sa.length + Nw.length : Nat) (Sa.length + Nw.length : Nat) (D.map stV) = ((Sa ++ Nw) ++ (D ++ Sr)).map stV := by
    intro D
    have := set_st (A := Sa ++ Nw) (M := []) (B := Sr) (D := D) (lo := (Sa.length + Nw.length : Nat)) (hi := (Sa.length + Nw.length : Nat)) (by rw [el]) (by rw [el]; simp)
    simpa using this
  (walk_at "uus")
  refine hereAt_s hb1 g1' (by simp; (first | lia | omega)) (by rw [el]) ?_
  (walk_at "uus")
  rw [iv_len]
  have els : ∀ (q : ¬ (s ≤ 1 + (hrN (Sa ++ Nw) : Nat) ∧ 1 + (hrN (Sa ++ Nw) : Nat) ≤ e)) (o1 o3 : Option V),
      wpSL (callAt defs (m + 2)) X Q (.cons (.setS (.op1 (.fld .beside 0) (.v 0)) (.v 2) (.v 2) (.frz (.disp (.cons (.frz (.disp (.cons (.word .gone) (.cons (.v 4) .nil)))) .nil)))) (.cons (.ret .none) .nil))
        [some (.ref .bes a), o1, some (.int (Sa.length + Nw.length : Nat)), o3, some (.int cs.length)] H1 fun _ H => Q .none H := by
    intro q o1 o3
    (walk_at "uus")
    refine o_setS g1' (by simp; apply lim_big; (first | lia | omega)) ?_
    have e7 : [V.lst [.str .gone, .int cs.length]] = [((.gone : W), cs.length)].map stV := rfl
    rw [e7, st2]
    (walk_at "uus")
    refine h2 q _ ?_ (upd_same _ _ _) (k0.upd (by decide))
    rw [upd_ne _ _ (by decide)]; exact hb1
  refine b_two (fun c2 => ?_) (fun c2 => ?_)
  · (walk_at "uus")
    refine b_two (fun c3 => ?_) (fun c3 => ?_)
    · (walk_at "uus")
      refine o_setS g1' (by simp; apply lim_big; (first | lia | omega)) ?_
      have e7 : [V.lst [.str .same, .int cs.length]] = [((.same : W), cs.length)].map stV := rfl
      rw [e7, st2]
      have hb2 : upd H1 .strs (some (c, strsV ((Sa ++ Nw) ++ ([((.same : W), cs.length)] ++ Sr)))) .bes = some (a, besV c s e) := by rw [upd_ne _ _ (by decide)]; exact hb1
      (walk_at "uus")
      have e5 : ∀ z : V, V.tup [.str .delete, .int (1 + (hrN (Sa ++ Nw) : Nat)), .inst .piece [.lst (iv cs), .lst []], .bool bb] = rowV (.del (hrN (Sa ++ Nw)) cs bb) := by
        intro _
        simp only [rowV, pieceV]
        rw [Int.add_comm 1]
      rw [e5 .none]
      refine h1 c2 c3 _ (upd_same _ _ _) ?_ ((k0.upd (by decide)).upd (by decide))
      rw [upd_ne _ _ (by decide), upd_same]
    · (walk_at "uu")
      exact els (fun q => c3 q.2) _ _
  · (walk_at "uu")
    exact els (fun q => c2 q.1) _ _
noncomputable def fnOf : Row → Fn
  | .ins _ _ => .undoneInsert
  | _ => .undoneDelete
theorem undoneRow_s {x : Row} (hx : isB x = false) {m : Nat} (h : callAt defs m (fnOf x) [.ref .bes a, rowV x] H Q X) : callAt defs (m + 1) .undoneRow [.ref .bes a, rowV x] H Q X := by
  refine call_open rfl ?_
  show wpSL _ _ _ ir_undoneRow [some (.ref .bes a), some (rowV x)] _ _
  cases x with
  | bnd => cases hx
  | ins p n => (walk_at "uus"); exact h
  | del p cs bb => (walk_at "uus"); exact h
end
set_option backward.match.sparseCases false
noncomputable def fl : Sts → List W
  | [] => []
  | (w, n) :: S => List.replicate n w ++ fl S
noncomputable def pos (S : Sts) : Prop := ∀ x ∈ S, 1 ≤ x.2
noncomputable def thB (w : W) : Bool := decide (w ≠ .new)
noncomputable def hrB (w : W) : Bool := decide (w ≠ .gone)
noncomputable def th (F : List W) : Nat := F.countP thB
noncomputable def hr (F : List W) : Nat := F.countP hrB
noncomputable def tight (F : List W) : Prop := F = [] ∨ ∃ G w, F = G ++ [w] ∧ w ≠ .new
theorem fl_app : ∀ a b, fl (a ++ b) = fl a ++ fl b
  | [], b => rfl
  | (w, n) :: a, b => by simp only [List.cons_append, fl, fl_app a b, List.append_assoc]
theorem th_app (a b : List W) : th (a ++ b) = th a + th b := List.countP_append
theorem hr_app (a b : List W) : hr (a ++ b) = hr a + hr b := List.countP_append
theorem th_rep (n : Nat) (w : W) : th (List.replicate n w) = if w = .new then 0 else n := by
  unfold th; rw [List.countP_replicate]; cases w <;> simp [thB]
theorem hr_rep (n : Nat) (w : W) : hr (List.replicate n w) = if w = .gone then 0 else n := by
  unfold hr; rw [List.countP_replicate]; cases w <;> simp [hrB]
theorem th_same (n : Nat) : th (List.replicate n .same) = n := by simp [th_rep]
theorem hr_same (n : Nat) : hr (List.replicate n .same) = n := by simp [hr_rep]
theorem thN_fl : ∀ S, thN S = th (fl S)
  | [] => rfl
  | (w, n) :: S => by rw [thN, fl, th_app, thN_fl S, th_rep]
theorem hrN_fl : ∀ S, hrN S = hr (fl S)
  | [] => rfl
  | (w, n) :: S => by rw [hrN, fl, hr_app, hrN_fl S, hr_rep]
theorem th_hr (F : List W) : F.length ≤ th F + hr F := by
  induction F with
  | nil => simp
  | cons w F ih =>
    unfold th hr at ih ⊢
    rw [List.countP_cons, List.countP_cons]
    cases w <;> simp [thB, hrB] <;> (first | lia | omega)
theorem fl_len : ∀ S, pos S → S.length ≤ (fl S).length
  | [], _ => by simp
  | (w, n) :: S, h => by
    have := fl_len S fun x hx => h x (List.mem_cons_of_mem _ hx)
    have := h (w, n) (by simp)
    simp [fl]; simp at this; (first | lia | omega)
theorem pos_app {a b : Sts} : pos (a ++ b) ↔ pos a ∧ pos b :=
  ⟨fun h => ⟨fun x hx => h x (List.mem_append_left _ hx), fun x hx => h x (List.mem_append_right _ hx)⟩, fun h x hx => (List.mem_append.mp hx).elim (h.1 x) (h.2 x)⟩
theorem pos_cons {w : W} {n : Nat} {S : Sts} (h : 1 ≤ n) (hS : pos S) : pos ((w, n) :: S) := by
  intro x hx
  rcases List.mem_cons.mp hx with rfl | hx
  · exact h
  · exact hS x hx
theorem fl_nil {S : Sts} (h : pos S) (e : fl S = []) : S = [] := by
  have := fl_len S h
  rw [e] at this
  exact List.length_eq_zero_iff.mp (by simpa using this)
theorem mem_fl : ∀ {S : Sts}, pos S → ∀ x ∈ S, x.1 ∈ fl S
  | (w, n) :: S, h, x, hx => by
    rcases List.mem_cons.mp hx with rfl | hx
    · have := h (w, n) (by simp)
      simp at this
      simp [fl]; (first | lia | omega)
    · simp only [fl, List.mem_append]
      exact .inr (mem_fl (fun x hx => h x (List.mem_cons_of_mem _ hx)) x hx)
theorem spl_fl : ∀ (k : Nat) (S : Sts), fl (spl k S).1 ++ fl (spl k S).2 = fl S
  | 0, S => by simp [spl, fl]
  | k + 1, [] => by simp [spl, fl]
  | k + 1, (w, n) :: S => by
    unfold spl
    split
    · simp only [fl, List.append_assoc, spl_fl (k + 1) S]
    · split
      · simp only [fl, List.append_nil]
        rw [← List.append_assoc, List.replicate_append_replicate, show k + 1 + (n - (k + 1)) = n by (first | lia | omega)]
      · simp only [fl, List.append_assoc, spl_fl (k + 1 - n) S]
theorem spl_pos : ∀ (k : Nat) (S : Sts), pos S → pos (spl k S).1 ∧ pos (spl k S).2
  | 0, S, h => by
    simp only [spl]
    exact ⟨(by intro x hx; cases hx), h⟩
  | k + 1, [], h => by
    simp only [spl]
    exact ⟨(by intro x hx; cases hx), (by intro x hx; cases hx)⟩
  | k + 1, (w, n) :: S, h => by
    have hS : pos S := fun x hx => h x (List.mem_cons_of_mem _ hx)
    have hn : 1 ≤ n := h (w, n) (by simp)
    unfold spl
    split
    · have ih := spl_pos (k + 1) S hS
      exact ⟨pos_cons hn ih.1, ih.2⟩
    · split
      · refine ⟨by intro x hx; simp at hx; subst hx; simp, ?_⟩
        intro x hx
        rcases List.mem_cons.mp hx with rfl | hx
        · simp; (first | lia | omega)
        · exact hS x hx
      · have ih := spl_pos (k + 1 - n) S hS
        exact ⟨pos_cons hn ih.1, ih.2⟩
theorem tight_app {a b : List W} (h : tight b) (hb : b ≠ []) : tight (a ++ b) := by
  rcases h with h | ⟨G, w, rfl, hw⟩
  · exact absurd h hb
  · exact .inr ⟨a ++ G, w, by simp, hw⟩
theorem tight_app' {a b : List W} (ha : tight a) (h : tight b) : tight (a ++ b) := by
  by_cases hb : b = []
  · subst hb; simpa using ha
  · exact tight_app h hb
theorem tight_rep {n : Nat} {w : W} (h : w ≠ .new) : tight (List.replicate n w) := by
  cases n with
  | zero => exact .inl rfl
  | succ n => exact .inr ⟨List.replicate n w, w, by rw [List.replicate_succ'], h⟩
theorem spl_tight : ∀ (k : Nat) (S : Sts), pos S → k ≤ thN S → tight (fl (spl k S).1)
  | 0, S, _, _ => .inl (by simp [spl, fl])
  | k + 1, [], _, h => by simp [thN] at h
  | k + 1, (w, n) :: S, hp, h => by
    have hS : pos S := fun x hx => hp x (List.mem_cons_of_mem _ hx)
    unfold spl
    split
    · rename_i c
      simp only [thN, c, if_true] at h
      simp only [fl]
      refine tight_app (spl_tight (k + 1) S hS (by (first | lia | omega))) fun e => ?_
      have := (spl_th (k + 1) S (by (first | lia | omega))).1
      rw [thN_fl, e] at this
      simp [th] at this
    · rename_i c
      simp only [thN, c, if_false] at h
      split
      · simp only [fl, List.append_nil]
        exact tight_rep c
      · simp only [fl]
        exact tight_app' (tight_rep c) (spl_tight (k + 1 - n) S hS (by (first | lia | omega)))
theorem th_zero {Z X : List W} (ht : tight (X ++ Z)) (h : th Z = 0) : Z = [] := by
  rcases List.eq_nil_or_concat Z with rfl | ⟨Z', z, rfl⟩
  · rfl
  · rcases ht with ht | ⟨G, w, e, hw⟩
    · simp at ht
    · simp only [List.concat_eq_append] at e h
      rw [← List.append_assoc] at e
      obtain ⟨_, e2⟩ := List.append_inj' e rfl
      have : z = w := by simpa using e2
      subst this
      rw [th_app] at h
      have : th [z] = 1 := by cases z <;> first | rfl | exact absurd rfl hw
      (first | lia | omega)
theorem uniq {X Y X' Y' : List W} (e : X ++ Y = X' ++ Y') (ht : th X = th X') (t1 : tight X) (t2 : tight X') : X = X' ∧ Y = Y' := by
  rcases List.append_eq_append_iff.mp e with ⟨Z, rfl, rfl⟩ | ⟨Z, rfl, rfl⟩
  · rw [th_app] at ht
    have := th_zero t2 (by (first | lia | omega))
    subst this; simp
  · rw [th_app] at ht
    have := th_zero t1 (by (first | lia | omega))
    subst this; simp
theorem within {X Y A Z : List W} (e : X ++ Y = A ++ Z) (ht : th X ≤ th A) (t1 : tight X) : ∃ A2, A = X ++ A2 ∧ Y = A2 ++ Z := by
  rcases List.append_eq_append_iff.mp e with ⟨A2, rfl, rfl⟩ | ⟨X2, rfl, rfl⟩
  · exact ⟨A2, rfl, rfl⟩
  · rw [th_app] at ht
    have := th_zero t1 (by (first | lia | omega))
    subst this
    exact ⟨[], by simp, by simp⟩
theorem beyond {X Y B : List W} {k : Nat} (e : X ++ Y = List.replicate k .same ++ B) (ht : k ≤ th X) : ∃ B1, X = List.replicate k .same ++ B1 ∧ B = B1 ++ Y := by
  rcases List.append_eq_append_iff.mp e with ⟨Z, e1, rfl⟩ | ⟨B1, rfl, rfl⟩
  · have h2 := congrArg th e1
    rw [th_same, th_app] at h2
    have h3 : th Z = Z.length := by
      unfold th
      rw [List.countP_eq_length]
      intro z hz
      have : z ∈ List.replicate k W.same := by rw [e1]; exact List.mem_append_right _ hz
      rw [(List.mem_replicate.mp this).2]; rfl
    have : Z = [] := List.length_eq_zero_iff.mp (by (first | lia | omega))
    subst this
    refine ⟨[], by simpa using e1.symm, by simp⟩
  · exact ⟨B1, rfl, rfl⟩
theorem news_fl (M : Sts) : th (fl (news M)) = 0 ∧ hr (fl (news M)) = hr (fl M) := by
  induction M with
  | nil => exact ⟨rfl, rfl⟩
  | cons x M ih =>
    obtain ⟨w, n⟩ := x
    by_cases c : w = .gone
    · subst c
      have e : news ((.gone, n) :: M) = news M := by simp [news, hereB]
      rw [e, fl, hr_app, hr_rep]
      simpa using ih
    · have e : news ((w, n) :: M) = (.new, n) :: news M := by simp [news, hereB, c]
      rw [e, fl, fl, hr_app, th_app, hr_app, hr_rep, hr_rep, th_rep]
      simpa [c] using ih
theorem news_pos {M : Sts} (h : pos M) : pos (news M) := by
  intro x hx
  simp only [news, List.mem_map, List.mem_filter] at hx
  obtain ⟨y, ⟨hy, _⟩, e0_⟩ := hx
  subst e0_
  exact h y hy
theorem tw_new : ∀ S : Sts, th (fl (S.takeWhile (fun z => decide (z.1 = .new)))) = 0
  | [] => rfl
  | (w, n) :: S => by
    by_cases c : w = .new
    · subst c
      simp only [List.takeWhile, decide_true, fl, th_app, tw_new S, th_rep, if_true]
    · simp [List.takeWhile, c, fl, th]
theorem tw_all (S : Sts) : ∀ w ∈ fl (S.takeWhile (fun z => decide (z.1 = .new))), w = .new := by
  intro w hw
  have := List.countP_eq_zero.mp (tw_new S) w hw
  simpa [thB] using this
theorem rng_fl {p n : Nat} {S Sa Nw M Sr : Sts} (hp : pos S) (h : p + n ≤ thN S) (hr : rng p n S = (Sa, Nw, M, Sr)) :
    fl S = fl Sa ++ (fl Nw ++ (fl M ++ fl Sr)) ∧ th (fl Sa) = p ∧ tight (fl Sa) ∧ th (fl Nw) = 0 ∧ (∀ w ∈ fl Nw, w = .new) ∧ th (fl M) = n ∧ tight (fl Nw ++ fl M) ∧ pos Sa ∧ pos Nw ∧ pos M ∧ pos Sr := by
  simp only [rng, Prod.mk.injEq] at hr
  refine @bc _ fun k_ => ?_
  obtain ⟨r1, r2, r3, r4⟩ := hr
  apply k_; clear k_
  have e4 : Nw ++ M = (spl n (spl p S).2).1 := by rw [← r2, ← r3]; exact tw_dw _
  have t1 := spl_th p S (by (first | lia | omega))
  have t2 := spl_th n (spl p S).2 (by (first | lia | omega))
  have p1 := spl_pos p S hp
  have p2 := spl_pos n _ p1.2
  have f1 := spl_fl p S
  have f2 := spl_fl n (spl p S).2
  have g1 := spl_tight p S hp (by (first | lia | omega))
  have g2 := spl_tight n _ p1.2 (by (first | lia | omega))
  have n1 := tw_new (spl n (spl p S).2).1
  have n2 := tw_all (spl n (spl p S).2).1
  rw [r1] at t1 p1 f1 g1
  rw [r2] at n1 n2
  rw [← e4] at t2 p2 f2 g2
  rw [r4] at t2 p2 f2
  simp only [thN_fl, fl_app, th_app] at t1 t2 g2 f2
  have p3 := pos_app.mp p2.1
  refine ⟨?_, t1.1, g1, n1, n2, by (first | lia | omega), g2, p1.1, p3.1, p3.2, p2.2⟩
  rw [← f1, ← f2]; simp
theorem rngD_fl {p : Nat} {S Sa Nw Sr : Sts} (hp : pos S) (h : p ≤ thN S) (hr : rngD p S = (Sa, Nw, Sr)) :
    fl S = fl Sa ++ (fl Nw ++ fl Sr) ∧ th (fl Sa) = p ∧ tight (fl Sa) ∧ th (fl Nw) = 0 ∧ (∀ w ∈ fl Nw, w = .new) ∧ pos Sa ∧ pos Nw ∧ pos Sr := by
  simp only [rngD, Prod.mk.injEq] at hr
  refine @bc _ fun k_ => ?_
  obtain ⟨r1, r2, r3⟩ := hr
  apply k_; clear k_
  have e4 : Nw ++ Sr = (spl p S).2 := by rw [← r2, ← r3]; exact tw_dw _
  have t1 := spl_th p S (by (first | lia | omega))
  have p1 := spl_pos p S hp
  have f1 := spl_fl p S
  have g1 := spl_tight p S hp (by (first | lia | omega))
  have n1 := tw_new (spl p S).2
  have n2 := tw_all (spl p S).2
  rw [r1] at t1 p1 f1 g1
  rw [r2] at n1 n2
  rw [← e4] at t1 p1 f1
  simp only [thN_fl, fl_app, th_app] at t1 f1
  have p3 := pos_app.mp p1.2
  exact ⟨f1.symm, t1.1, g1, n1, n2, p1.1, p3.1, p3.2⟩
set_option backward.match.sparseCases false
theorem side_ins {p n : Nat} {S Sa Nw M Sr : Sts} {U Z : List W} (hp : pos S) (hr : rng p n S = (Sa, Nw, M, Sr)) (e : fl S = U ++ (List.replicate n .same ++ Z)) (tU : tight U) (hU : th U = p) (hn : 1 ≤ n) :
    fl Sa = U ∧ Nw = [] ∧ untB M = true ∧ fl Sr = Z ∧ pos Sa ∧ pos Sr := by
  obtain ⟨f, t1, t2, t3, t4, t5, t6, q1, q2, q3, q4⟩ := rng_fl hp (by rw [thN_fl, e, th_app, th_app, th_same]; (first | lia | omega)) hr
  obtain ⟨e1, e2⟩ := uniq (f.symm.trans e) (by (first | lia | omega)) t2 tU
  rw [← List.append_assoc] at e2
  obtain ⟨e3, e4⟩ := uniq e2 (by rw [th_app, th_same]; (first | lia | omega)) t6 (tight_rep (by decide))
  have hNw : fl Nw = [] := by
    cases h : fl Nw with
    | nil => rfl
    | cons w F =>
      have w1 : w = .new := t4 w (by rw [h]; simp)
      have w2 : w ∈ List.replicate n W.same := by rw [← e3, h]; simp
      rw [(List.mem_replicate.mp w2).2] at w1
      exact nomatch w1
  have e5 := fl_nil q2 hNw
  subst e5
  simp only [fl, List.nil_append] at e3
  refine ⟨e1, rfl, ?_, e4, q1, q4⟩
  unfold untB
  have m1 : M.isEmpty = false := by
    cases M with
    | nil =>
      simp only [fl] at e3
      have := congrArg List.length e3
      simp at this; (first | lia | omega)
    | cons => rfl
  have m2 : M.filter neSame = [] := by
    rw [List.filter_eq_nil_iff]
    intro x hx
    have := mem_fl q3 x hx
    rw [e3] at this
    simp [neSame, (List.mem_replicate.mp this).2]
  rw [m1, m2]; rfl
theorem side_del {p : Nat} {S Sa Nw Sr : Sts} {U Z : List W} (hp : pos S) (hr : rngD p S = (Sa, Nw, Sr)) (e : fl S = U ++ Z) (tU : tight U) (hU : th U = p) (hz : Z.head? ≠ some .new) :
    fl Sa = U ∧ Nw = [] ∧ fl Sr = Z ∧ pos Sa ∧ pos Sr := by
  obtain ⟨f, t1, t2, t3, t4, q1, q2, q4⟩ := rngD_fl hp (by rw [thN_fl, e, th_app]; (first | lia | omega)) hr
  obtain ⟨e1, e2⟩ := uniq (f.symm.trans e) (by (first | lia | omega)) t2 tU
  have hNw : fl Nw = [] := by
    cases h : fl Nw with
    | nil => rfl
    | cons w F =>
      have w1 : w = .new := t4 w (by rw [h]; simp)
      subst w1
      rw [← e2, h] at hz
      exact absurd rfl hz
  have e5 := fl_nil q2 hNw
  subst e5
  exact ⟨e1, rfl, by simpa [fl] using e2, q1, q4⟩
noncomputable def InvL (cr : Nat) (S : Sts) (s e : Int) (l rr : Nat) : Prop := s = 1 ∧ e = l + 1 ∧ ∃ B, fl S = List.replicate (l + 1) .same ++ B ∧ th B = rr ∧ hr B = cr
noncomputable def InvR (cl : Nat) (S : Sts) (s e : Int) (l rr : Nat) : Prop := s = cl + 2 ∧ e = cl + 2 + rr ∧ ∃ A, fl S = A ++ List.replicate (rr + 1) .same ∧ th A = l ∧ hr A = cl
noncomputable def BesI (H : St) (a c : Nat) (I : Sts → Int → Int → Nat → Nat → Prop) (l rr : Nat) : Prop := ∃ S s e, H .bes = some (a, besV c s e) ∧ H .strs = some (c, strsV S) ∧ pos S ∧ I S s e l rr
theorem InvL.len {cr : Nat} {S : Sts} {s e : Int} {l rr : Nat} (h : InvL cr S s e l rr) (hp : pos S) : S.length ≤ l + 1 + rr + cr := by
  refine @bc _ fun k_ => ?_
  obtain ⟨_, _, B, e, h1, h2⟩ := h
  apply k_; clear k_
  have := fl_len S hp
  have h3 := th_hr B
  rw [e] at this
  simp at this; (first | lia | omega)
theorem InvR.len {cl : Nat} {S : Sts} {s e : Int} {l rr : Nat} (h : InvR cl S s e l rr) (hp : pos S) : S.length ≤ l + 1 + rr + cl := by
  refine @bc _ fun k_ => ?_
  obtain ⟨_, _, B, e, h1, h2⟩ := h
  apply k_; clear k_
  have := fl_len S hp
  have h3 := th_hr B
  rw [e] at this
  simp at this; (first | lia | omega)
theorem rep_split {a b n : Nat} (w : W) (h : n = a + b) : List.replicate n w = List.replicate a w ++ List.replicate b w := by
  subst h; rw [List.replicate_append_replicate]
section
variable {H : St} {Q : V → St → Prop} {X : St → Prop} {a c cl cr l rr p n j : Nat} {cs : List Int} {bb : Bool}
theorem rng_ex (p n : Nat) (S : Sts) : ∃ Sa Nw M Sr, rng p n S = (Sa, Nw, M, Sr) := ⟨_, _, _, _, rfl⟩
theorem rngD_ex (p : Nat) (S : Sts) : ∃ Sa Nw Sr, rngD p S = (Sa, Nw, Sr) := ⟨_, _, _, rfl⟩
theorem LL_ins (I : BesI H a c (InvL cr) l rr) (hb : l + rr + cr ≤ 30000) (hn : 1 ≤ n) (hp : p + n ≤ l) (h : ∀ H', BesI H' a c (InvL cr) (l - n) rr → Keep [.bes, .strs] H H' → Q (rowV (.ins p n)) H') {m : Nat} :
    callAt defs (m + 3) .undoneInsert [.ref .bes a, rowV (.ins p n)] H Q X := by
  refine @bc _ fun k_ => ?_
  obtain ⟨S, s, e, h1, h2, ps, I⟩ := I
  apply k_; clear k_
  have il := I.len ps
  refine @bc _ fun k_ => ?_
  obtain ⟨e0_, e1_, B, f, t1, t2⟩ := I
  apply k_; clear k_
  subst e0_ e1_
  refine @bc _ fun k_ => ?_
  obtain ⟨Sa, Nw, M, Sr, hr⟩ := rng_ex p n S
  apply k_; clear k_
  have f' : fl S = List.replicate p .same ++ (List.replicate n .same ++ (List.replicate (l + 1 - p - n) .same ++ B)) := by
    rw [f, rep_split (a := p) (b := n + (l + 1 - p - n)) .same (by (first | lia | omega)), rep_split (a := n) (b := l + 1 - p - n) .same rfl]; simp only [fl, List.append_assoc, List.append_nil, List.nil_append]
  refine @bc _ fun k_ => ?_
  obtain ⟨e1, e0_, e3, e4, q1, q2⟩ := side_ins ps hr f' (tight_rep (by decide)) (th_same _) hn
  apply k_; clear k_
  subst e0_
  have e5 : hrN (Sa ++ []) = p := by rw [List.append_nil, hrN_fl, e1, hr_same]
  refine undoneInsert_s h1 h2 (by (first | lia | omega)) (by rw [thN_fl, f, th_app, th_same]; (first | lia | omega)) hr (fun _ _ _ H' b1 b2 k => ?_) (fun q => ?_)
  · rw [e5]
    refine h H' ⟨_, _, _, b1, b2, pos_app.mpr ⟨by simpa using q1, q2⟩, rfl, by (first | lia | omega), B, ?_, t1, t2⟩ k
    rw [fl_app, List.append_nil, e1, e4, rep_split (n := l - n + 1) (a := p) (b := l + 1 - p - n) .same (by (first | lia | omega))]; simp only [fl, List.append_assoc, List.append_nil, List.nil_append]
  · exact absurd ⟨e3, by (first | lia | omega), by rw [e5]; (first | lia | omega)⟩ q
theorem LL_del (I : BesI H a c (InvL cr) l rr) (hb : l + rr + cr ≤ 30000) (hn : cs ≠ []) (hp : p ≤ l) (h : ∀ H', BesI H' a c (InvL cr) (l + cs.length) rr → Keep [.bes, .strs] H H' → Q (rowV (.del p cs bb)) H') {m : Nat} :
    callAt defs (m + 3) .undoneDelete [.ref .bes a, rowV (.del p cs bb)] H Q X := by
  have hc : 1 ≤ cs.length := by cases cs with | nil => exact absurd rfl hn | cons => simp
  refine @bc _ fun k_ => ?_
  obtain ⟨S, s, e, h1, h2, ps, I⟩ := I
  apply k_; clear k_
  have il := I.len ps
  refine @bc _ fun k_ => ?_
  obtain ⟨e0_, e1_, B, f, t1, t2⟩ := I
  apply k_; clear k_
  subst e0_ e1_
  refine @bc _ fun k_ => ?_
  obtain ⟨Sa, Nw, Sr, hr⟩ := rngD_ex p S
  apply k_; clear k_
  have f' : fl S = List.replicate p .same ++ (List.replicate (l - p + 1) .same ++ B) := by
    rw [f, rep_split (a := p) (b := l - p + 1) .same (by (first | lia | omega))]; simp only [fl, List.append_assoc, List.append_nil, List.nil_append]
  refine @bc _ fun k_ => ?_
  obtain ⟨e1, e0_, e4, q1, q2⟩ := side_del ps hr f' (tight_rep (by decide)) (th_same _) (by simp [List.replicate_succ])
  apply k_; clear k_
  subst e0_
  have e5 : hrN (Sa ++ []) = p := by rw [List.append_nil, hrN_fl, e1, hr_same]
  refine undoneDelete_s h1 h2 (by (first | lia | omega)) hr (fun _ _ H' b1 b2 k => ?_) (fun q => ?_)
  · rw [e5]
    refine h H' ⟨_, _, _, b1, b2, pos_app.mpr ⟨by simpa using q1, pos_app.mpr ⟨pos_cons hc (by intro x hx; cases hx), q2⟩⟩, rfl, by (first | lia | omega), B, ?_, t1, t2⟩ k
    rw [fl_app, List.append_nil, fl_app, e1, e4, rep_split (n := l + cs.length + 1) (a := p) (b := cs.length + (l - p + 1)) .same (by (first | lia | omega)), rep_split (a := cs.length) .same rfl]; simp only [fl, List.append_assoc, List.append_nil, List.nil_append]
  · exact absurd ⟨by (first | lia | omega), by rw [e5]; (first | lia | omega)⟩ q
theorem LR_ins (I : BesI H a c (InvL cr) l rr) (hb : l + rr + cr ≤ 30000) (hn : 1 ≤ n) (hp : j + n ≤ rr) (h : ∀ H', BesI H' a c (InvL cr) l (rr - n) → Keep [.bes, .strs] H H' → Q .none H') {m : Nat} :
    callAt defs (m + 3) .undoneInsert [.ref .bes a, rowV (.ins (l + 1 + j) n)] H Q X := by
  refine @bc _ fun k_ => ?_
  obtain ⟨S, s, e, h1, h2, ps, I⟩ := I
  apply k_; clear k_
  have il := I.len ps
  refine @bc _ fun k_ => ?_
  obtain ⟨e0_, e1_, B, f, t1, t2⟩ := I
  apply k_; clear k_
  subst e0_ e1_
  have ht : l + 1 + j + n ≤ thN S := by rw [thN_fl, f, th_app, th_same]; (first | lia | omega)
  refine @bc _ fun k_ => ?_
  obtain ⟨Sa, Nw, M, Sr, hr⟩ := rng_ex (l + 1 + j) n S
  obtain ⟨g, u1, u2, u3, u4, u5, u6, q1, q2, q3, q4⟩ := rng_fl ps ht hr
  apply k_; clear k_
  obtain ⟨B1, x1, x2⟩ := beyond (g.symm.trans f) (by (first | lia | omega))
  have e5 : l + 1 ≤ hrN (Sa ++ Nw) := by rw [hrN_fl, fl_app, x1, hr_app, hr_app, hr_same]; (first | lia | omega)
  have nf := news_fl M
  have t1' := t1; have t2' := t2
  rw [x2, th_app, th_app, th_app] at t1'
  rw [x2, hr_app, hr_app, hr_app] at t2'
  rw [x1, th_app, th_same] at u1
  refine undoneInsert_s h1 h2 (by (first | lia | omega)) ht hr (fun _ _ q H' b1 b2 k => absurd q (by (first | lia | omega))) (fun q H' b1 b2 k => ?_)
  refine h H' ⟨_, _, _, b1, b2, pos_app.mpr ⟨pos_app.mpr ⟨q1, q2⟩, pos_app.mpr ⟨news_pos q3, q4⟩⟩, rfl, rfl, B1 ++ (fl Nw ++ (fl (news M) ++ fl Sr)), ?_, ?_, ?_⟩ k
  · rw [fl_app, fl_app, fl_app, x1]; simp
  · rw [th_app, th_app, th_app]; (first | lia | omega)
  · rw [hr_app, hr_app, hr_app]; (first | lia | omega)
theorem LR_del (I : BesI H a c (InvL cr) l rr) (hb : l + rr + cr ≤ 30000) (hn : cs ≠ []) (hp : j ≤ rr) (h : ∀ H', BesI H' a c (InvL cr) l (rr + cs.length) → Keep [.bes, .strs] H H' → Q .none H') {m : Nat} :
    callAt defs (m + 3) .undoneDelete [.ref .bes a, rowV (.del (l + 1 + j) cs bb)] H Q X := by
  have hc : 1 ≤ cs.length := by cases cs with | nil => exact absurd rfl hn | cons => simp
  refine @bc _ fun k_ => ?_
  obtain ⟨S, s, e, h1, h2, ps, I⟩ := I
  apply k_; clear k_
  have il := I.len ps
  refine @bc _ fun k_ => ?_
  obtain ⟨e0_, e1_, B, f, t1, t2⟩ := I
  apply k_; clear k_
  subst e0_ e1_
  have ht : l + 1 + j ≤ thN S := by rw [thN_fl, f, th_app, th_same]; (first | lia | omega)
  refine @bc _ fun k_ => ?_
  obtain ⟨Sa, Nw, Sr, hr⟩ := rngD_ex (l + 1 + j) S
  obtain ⟨g, u1, u2, u3, u4, q1, q2, q4⟩ := rngD_fl ps ht hr
  apply k_; clear k_
  obtain ⟨B1, x1, x2⟩ := beyond (g.symm.trans f) (by (first | lia | omega))
  have e5 : l + 1 ≤ hrN (Sa ++ Nw) := by rw [hrN_fl, fl_app, x1, hr_app, hr_app, hr_same]; (first | lia | omega)
  have t1' := t1; have t2' := t2
  rw [x2, th_app, th_app] at t1'
  rw [x2, hr_app, hr_app] at t2'
  rw [x1, th_app, th_same] at u1
  refine undoneDelete_s h1 h2 (by (first | lia | omega)) hr (fun _ q H' b1 b2 k => absurd q (by (first | lia | omega))) (fun q H' b1 b2 k => ?_)
  refine h H' ⟨_, _, _, b1, b2, pos_app.mpr ⟨pos_app.mpr ⟨q1, q2⟩, pos_app.mpr ⟨pos_cons hc (by intro x hx; cases hx), q4⟩⟩, rfl, rfl, B1 ++ (fl Nw ++ (List.replicate cs.length .gone ++ fl Sr)), ?_, ?_, ?_⟩ k
  · rw [fl_app, fl_app, fl_app, x1]; simp [fl]
  · rw [th_app, th_app, th_app, th_rep]; simp; (first | lia | omega)
  · rw [hr_app, hr_app, hr_app, hr_rep]; simp; (first | lia | omega)
theorem RR_ins (I : BesI H a c (InvR cl) l rr) (hb : l + rr + cl ≤ 30000) (hn : 1 ≤ n) (hp : j + n ≤ rr) (h : ∀ H', BesI H' a c (InvR cl) l (rr - n) → Keep [.bes, .strs] H H' → Q (rowV (.ins (cl + 1 + j) n)) H') {m : Nat} :
    callAt defs (m + 3) .undoneInsert [.ref .bes a, rowV (.ins (l + 1 + j) n)] H Q X := by
  refine @bc _ fun k_ => ?_
  obtain ⟨S, s, e, h1, h2, ps, I⟩ := I
  apply k_; clear k_
  have il := I.len ps
  refine @bc _ fun k_ => ?_
  obtain ⟨e0_, e1_, A, f, t1, t2⟩ := I
  apply k_; clear k_
  subst e0_ e1_
  refine @bc _ fun k_ => ?_
  obtain ⟨Sa, Nw, M, Sr, hr⟩ := rng_ex (l + 1 + j) n S
  apply k_; clear k_
  have f' : fl S = (A ++ List.replicate (1 + j) .same) ++ (List.replicate n .same ++ (List.replicate (rr - j - n) .same)) := by
    rw [f, rep_split (a := 1 + j) (b := n + (rr - j - n)) .same (by (first | lia | omega)), rep_split (a := n) (b := rr - j - n) .same rfl]; simp only [fl, List.append_assoc, List.append_nil, List.nil_append]
  obtain ⟨e1, rfl, e3, e4, q1, q2⟩ := side_ins ps hr f' (tight_app (tight_rep (by decide)) (by rw [Nat.add_comm, List.replicate_succ]; simp)) (by rw [th_app, th_same]; (first | lia | omega)) hn
  have e5 : hrN (Sa ++ []) = cl + 1 + j := by rw [List.append_nil, hrN_fl, e1, hr_app, hr_same]; (first | lia | omega)
  refine undoneInsert_s h1 h2 (by (first | lia | omega)) (by rw [thN_fl, f, th_app, th_same]; (first | lia | omega)) hr (fun _ _ _ H' b1 b2 k => ?_) (fun q => ?_)
  · rw [e5]
    refine h H' ⟨_, _, _, b1, b2, pos_app.mpr ⟨by simpa using q1, q2⟩, rfl, by (first | lia | omega), A, ?_, t1, t2⟩ k
    rw [fl_app, List.append_nil, e1, e4, rep_split (n := rr - n + 1) (a := 1 + j) (b := rr - j - n) .same (by (first | lia | omega))]; simp only [fl, List.append_assoc, List.append_nil, List.nil_append]
  · exact absurd ⟨e3, by rw [e5]; (first | lia | omega), by rw [e5]; (first | lia | omega)⟩ q
theorem RR_del (I : BesI H a c (InvR cl) l rr) (hb : l + rr + cl ≤ 30000) (hn : cs ≠ []) (hp : j ≤ rr) (h : ∀ H', BesI H' a c (InvR cl) l (rr + cs.length) → Keep [.bes, .strs] H H' → Q (rowV (.del (cl + 1 + j) cs bb)) H') {m : Nat} :
    callAt defs (m + 3) .undoneDelete [.ref .bes a, rowV (.del (l + 1 + j) cs bb)] H Q X := by
  have hc : 1 ≤ cs.length := by cases cs with | nil => exact absurd rfl hn | cons => simp
  refine @bc _ fun k_ => ?_
  obtain ⟨S, s, e, h1, h2, ps, I⟩ := I
  apply k_; clear k_
  have il := I.len ps
  refine @bc _ fun k_ => ?_
  obtain ⟨e0_, e1_, A, f, t1, t2⟩ := I
  apply k_; clear k_
  subst e0_ e1_
  refine @bc _ fun k_ => ?_
  obtain ⟨Sa, Nw, Sr, hr⟩ := rngD_ex (l + 1 + j) S
  apply k_; clear k_
  have f' : fl S = (A ++ List.replicate (1 + j) .same) ++ List.replicate (rr - j) .same := by
    rw [f, rep_split (a := 1 + j) (b := rr - j) .same (by (first | lia | omega))]; simp only [fl, List.append_assoc, List.append_nil, List.nil_append]
  obtain ⟨e1, rfl, e4, q1, q2⟩ := side_del ps hr f' (tight_app (tight_rep (by decide)) (by rw [Nat.add_comm, List.replicate_succ]; simp)) (by rw [th_app, th_same]; (first | lia | omega)) (by
    cases rr - j with
    | zero => simp
    | succ k => simp [List.replicate_succ])
  have e5 : hrN (Sa ++ []) = cl + 1 + j := by rw [List.append_nil, hrN_fl, e1, hr_app, hr_same]; (first | lia | omega)
  refine undoneDelete_s h1 h2 (by (first | lia | omega)) hr (fun _ _ H' b1 b2 k => ?_) (fun q => ?_)
  · rw [e5]
    refine h H' ⟨_, _, _, b1, b2, pos_app.mpr ⟨by simpa using q1, pos_app.mpr ⟨pos_cons hc (by intro x hx; cases hx), q2⟩⟩, rfl, by (first | lia | omega), A, ?_, t1, t2⟩ k
    rw [fl_app, List.append_nil, fl_app, e1, e4, rep_split (n := rr + cs.length + 1) (a := 1 + j) (b := cs.length + (rr - j)) .same (by (first | lia | omega)), rep_split (n := cs.length + (rr - j)) (a := cs.length) .same rfl]; simp only [fl, List.append_assoc, List.append_nil, List.nil_append]
  · exact absurd ⟨by rw [e5]; (first | lia | omega), by rw [e5]; (first | lia | omega)⟩ q
theorem RL_ins (I : BesI H a c (InvR cl) l rr) (hb : l + rr + cl ≤ 30000) (hn : 1 ≤ n) (hp : p + n ≤ l) (h : ∀ H', BesI H' a c (InvR cl) (l - n) rr → Keep [.bes, .strs] H H' → Q .none H') {m : Nat} :
    callAt defs (m + 3) .undoneInsert [.ref .bes a, rowV (.ins p n)] H Q X := by
  refine @bc _ fun k_ => ?_
  obtain ⟨S, s, e, h1, h2, ps, I⟩ := I
  apply k_; clear k_
  have il := I.len ps
  refine @bc _ fun k_ => ?_
  obtain ⟨e0_, e1_, A, f, t1, t2⟩ := I
  apply k_; clear k_
  subst e0_ e1_
  have ht : p + n ≤ thN S := by rw [thN_fl, f, th_app, th_same]; (first | lia | omega)
  refine @bc _ fun k_ => ?_
  obtain ⟨Sa, Nw, M, Sr, hr⟩ := rng_ex p n S
  obtain ⟨g, u1, u2, u3, u4, u5, u6, q1, q2, q3, q4⟩ := rng_fl ps ht hr
  apply k_; clear k_
  have nz : fl Nw ++ fl M ≠ [] := by
    intro e
    rw [(List.append_eq_nil_iff.mp e).2] at u5
    simp [th] at u5
    (first | lia | omega)
  have g2 : (fl Sa ++ (fl Nw ++ fl M)) ++ fl Sr = A ++ List.replicate (rr + 1) .same := by rw [← f, g]; simp
  obtain ⟨A2, x1, x2⟩ := within g2 (by rw [th_app, th_app]; (first | lia | omega)) (tight_app u6 nz)
  have e5 : hrN (Sa ++ Nw) ≤ cl := by
    rw [hrN_fl, fl_app, hr_app, ← t2, x1, hr_app, hr_app, hr_app]; (first | lia | omega)
  have nf := news_fl M
  have t1' := t1; have t2' := t2
  rw [x1, th_app, th_app, th_app] at t1'
  rw [x1, hr_app, hr_app, hr_app] at t2'
  refine undoneInsert_s h1 h2 (by (first | lia | omega)) ht hr (fun _ q _ H' b1 b2 k => absurd q (by (first | lia | omega))) (fun q H' b1 b2 k => ?_)
  refine h H' ⟨_, _, _, b1, b2, pos_app.mpr ⟨pos_app.mpr ⟨q1, q2⟩, pos_app.mpr ⟨news_pos q3, q4⟩⟩, rfl, rfl, fl Sa ++ (fl Nw ++ (fl (news M) ++ A2)), ?_, ?_, ?_⟩ k
  · rw [fl_app, fl_app, fl_app, x2]; simp
  · rw [th_app, th_app, th_app]; (first | lia | omega)
  · rw [hr_app, hr_app, hr_app]; (first | lia | omega)
theorem RL_del (I : BesI H a c (InvR cl) l rr) (hb : l + rr + cl ≤ 30000) (hn : cs ≠ []) (hp : p ≤ l) (h : ∀ H', BesI H' a c (InvR cl) (l + cs.length) rr → Keep [.bes, .strs] H H' → Q .none H') {m : Nat} :
    callAt defs (m + 3) .undoneDelete [.ref .bes a, rowV (.del p cs bb)] H Q X := by
  have hc : 1 ≤ cs.length := by cases cs with | nil => exact absurd rfl hn | cons => simp
  refine @bc _ fun k_ => ?_
  obtain ⟨S, s, e, h1, h2, ps, I⟩ := I
  apply k_; clear k_
  have il := I.len ps
  refine @bc _ fun k_ => ?_
  obtain ⟨e0_, e1_, A, f, t1, t2⟩ := I
  apply k_; clear k_
  subst e0_ e1_
  have ht : p ≤ thN S := by rw [thN_fl, f, th_app, th_same]; (first | lia | omega)
  refine @bc _ fun k_ => ?_
  obtain ⟨Sa, Nw, Sr, hr⟩ := rngD_ex p S
  obtain ⟨g, u1, u2, u3, u4, q1, q2, q4⟩ := rngD_fl ps ht hr
  apply k_; clear k_
  obtain ⟨A1, x1, x2⟩ := within (g.symm.trans f) (by (first | lia | omega)) u2
  obtain ⟨A2, x3, x4⟩ : ∃ A2, A1 = fl Nw ++ A2 ∧ fl Sr = A2 ++ List.replicate (rr + 1) .same := by
    rcases List.append_eq_append_iff.mp x2 with ⟨A2, y1, y2⟩ | ⟨Z, y1, y2⟩
    · exact ⟨A2, y1, y2⟩
    · cases Z with
      | nil => exact ⟨[], by simpa using y1.symm, by simpa using y2.symm⟩
      | cons z Z =>
        have z1 : z = .new := u4 z (by rw [y1]; simp)
        have z2 : z ∈ List.replicate (rr + 1) W.same := by rw [y2]; simp
        rw [(List.mem_replicate.mp z2).2] at z1
        exact nomatch z1
  have e5 : hrN (Sa ++ Nw) ≤ cl := by
    rw [hrN_fl, fl_app, hr_app, ← t2, x1, x3, hr_app, hr_app]; (first | lia | omega)
  have t1' := t1; have t2' := t2
  rw [x1, x3, th_app, th_app] at t1'
  rw [x1, x3, hr_app, hr_app] at t2'
  refine undoneDelete_s h1 h2 (by (first | lia | omega)) hr (fun q _ H' b1 b2 k => absurd q (by (first | lia | omega))) (fun q H' b1 b2 k => ?_)
  refine h H' ⟨_, _, _, b1, b2, pos_app.mpr ⟨pos_app.mpr ⟨q1, q2⟩, pos_app.mpr ⟨pos_cons hc (by intro x hx; cases hx), q4⟩⟩, rfl, rfl, fl Sa ++ (fl Nw ++ (List.replicate cs.length .gone ++ A2)), ?_, ?_, ?_⟩ k
  · rw [fl_app, fl_app, fl_app, x4]; simp [fl]
  · rw [th_app, th_app, th_app, th_rep]; simp; (first | lia | omega)
  · rw [hr_app, hr_app, hr_app, hr_rep]; simp; (first | lia | omega)
end
set_option backward.match.sparseCases false
noncomputable def shift (k : Nat) : Row → Row
  | .ins p n => .ins (k + p) n
  | .del p cs b => .del (k + p) cs b
  | .bnd => .bnd
inductive Two (L0 R0 : List Int) : List Row → List Int → List Int → Prop
  | nil : Two L0 R0 [] L0 R0
  | bnd {rows L R} : Two L0 R0 rows L R → Two L0 R0 (rows ++ [.bnd]) L R
  | left {rows L R L' x} : Two L0 R0 rows L R → Step x L L' → isB x = false → L'.length ≤ 10000 → Two L0 R0 (rows ++ [x]) L' R
  | right {rows L R R' x} : Two L0 R0 rows L R → Step x R R' → isB x = false → R'.length ≤ 10000 → Two L0 R0 (rows ++ [shift (L.length + 1) x]) L R'
theorem Two.len {L0 R0 L R : List Int} {rows : List Row} (h : Two L0 R0 rows L R) (h1 : L0.length ≤ 10000) (h2 : R0.length ≤ 10000) : L.length ≤ 10000 ∧ R.length ≤ 10000 := by
  induction h with
  | nil => exact ⟨h1, h2⟩
  | bnd _ ih => exact ih
  | left _ _ _ hb ih => exact ⟨hb, ih.2⟩
  | right _ _ _ hb ih => exact ⟨ih.1, hb⟩
noncomputable def cntB (rows : List Row) : Nat := rows.countP isB
theorem cntB_app (a b : List Row) : cntB (a ++ b) = cntB a + cntB b := List.countP_append
theorem insT_left {S Z : List Int} {p : Nat} {cs : List Int} (h : p ≤ S.length) : insT (S ++ Z) p cs = insT S p cs ++ Z := by
  unfold insT
  rw [List.take_append_of_le_length h, List.drop_append_of_le_length h]; simp
theorem insT_right {W S : List Int} {p : Nat} {cs : List Int} : insT (W ++ S) (W.length + p) cs = W ++ insT S p cs := by
  unfold insT
  rw [take_app rfl, drop_app rfl]; simp
theorem Step.left {x : Row} {S S' Z : List Int} (h : Step x S S') : Step x (S ++ Z) (S' ++ Z) := by
  cases x with
  | bnd => exact congrArg (· ++ Z) h
  | ins p n =>
    refine @bc _ fun k_ => ?_
    obtain ⟨h1, h2, cs, h3, e0_⟩ := h
    apply k_; clear k_
    subst e0_
    exact ⟨h1, by simp; (first | lia | omega), cs, h3, (insT_left h2).symm⟩
  | del p cs b =>
    obtain ⟨h1, h2, rfl⟩ := h
    exact ⟨h1, by simp; (first | lia | omega), (insT_left h2).symm⟩
theorem Step.right {x : Row} {W S S' : List Int} (h : Step x S S') : Step (shift W.length x) (W ++ S) (W ++ S') := by
  cases x with
  | bnd => exact congrArg (W ++ ·) h
  | ins p n =>
    refine @bc _ fun k_ => ?_
    obtain ⟨h1, h2, cs, h3, e0_⟩ := h
    apply k_; clear k_
    subst e0_
    exact ⟨h1, by simp; (first | lia | omega), cs, h3, insT_right.symm⟩
  | del p cs b =>
    obtain ⟨h1, h2, rfl⟩ := h
    exact ⟨h1, by simp; (first | lia | omega), insT_right.symm⟩
theorem isB_eq {x : Row} (h : isB x = true) : x = .bnd := by cases x <;> first | rfl | cases h
section
variable {H : St} {Q : V → St → Prop} {X : St → Prop} {a c f cl cr : Nat} {L0 R0 : List Int}
noncomputable abbrev regB : SL := (.cons (.ite (.op2 .eq (.v 6) (.glob .boundary))
      (.cons (.ite (.and_ (.op2 .gt (.op1 .len (.v 5)) (.int 0)) (.op2 .ne (.op2 .idx (.v 5) (.int (-1))) (.glob .boundary)))
      (.cons (.app (.v 5) (.glob .boundary))
    .nil)
      .nil)
    .nil)
      (.cons (.asg 7 (.call .undoneRow (.cons (.v 4) (.cons (.v 6) .nil))))
    (.cons (.ite (.op1 .notNone (.v 7))
      (.cons (.app (.v 5) (.v 7))
    .nil)
      .nil)
    .nil)))
    .nil)
noncomputable abbrev rtags : List Tag := [.bes, .strs, .fnd]
theorem BesI.keep {I : Sts → Int → Int → Nat → Nat → Prop} {l rr : Nat} {H' : St} {ts : List Tag} (h : BesI H a c I l rr) (k : Keep ts H H') (h1 : Tag.bes ∉ ts) (h2 : Tag.strs ∉ ts) : BesI H' a c I l rr := by
  refine @bc _ fun k_ => ?_
  obtain ⟨S, s, e, h3, h4, h5⟩ := h
  apply k_; clear k_
  exact ⟨S, s, e, (k _ h1).trans h3, (k _ h2).trans h4, h5⟩
theorem reg_bnd {m : Nat} {R : V → St → Prop} {N : Loc → St → Prop} {found : List Row} {o0 o1 o2 o3 o6 o7 : Option V} (hf : H .fnd = some (f, rowsV found)) (hl : found.length ≤ 90000)
    (h : ∀ H' found', H' .fnd = some (f, rowsV found') → found' = found ∨ found' = found ++ [.bnd] → Keep [.fnd] H H' → N [o0, o1, o2, o3, some (.ref .bes a), some (.ref .fnd f), some (rowV .bnd), o7] H') :
    forB (callAt defs m) R [6] regB (rowV .bnd) [o0, o1, o2, o3, some (.ref .bes a), some (.ref .fnd f), o6, o7] H N := by
  unfold forB
  (walk_at "uus")
  rcases List.eq_nil_or_concat found with rfl | ⟨l, x, rfl⟩
  · (walk_at "uus")
    exact h H [] hf (.inl rfl) Keep.refl
  · simp only [List.concat_eq_append, rowsV, List.map_append, List.map_cons, List.map_nil] at hf h hl ⊢
    simp only [List.length_append, List.length_cons, List.length_nil] at hl
    have hlen : (List.map rowV l ++ [rowV x]).length = l.length + 1 := by simp
    (walk_at "uus")
    refine o_idx hf getAt_last ?_
    (walk_at "uus")
    refine ne_bnd x ?_
    (walk_at "uus")
    refine b_any (fun q => ?_) (fun q => ?_)
    · (walk_at "uus")
      refine o_app hf (by rw [hlen]; apply lim_big; (first | lia | omega)) ?_
      (walk_at "uus")
      refine h _ (l ++ [x] ++ [.bnd]) ?_ (.inr rfl) (Keep.refl.upd (by decide))
      rw [upd_same]; simp [rowV, globV]
    · (walk_at "uus")
      refine h H (l ++ [x]) (by rw [hf]; simp) (.inl rfl) Keep.refl
theorem reg_row {m : Nat} {R : V → St → Prop} {N : Loc → St → Prop} {found : List Row} {x : Row} {o0 o1 o2 o3 o6 o7 : Option V} (hx : isB x = false) (hf : H .fnd = some (f, rowsV found)) (hl : found.length ≤ 90000)
    (hu : ∀ Qr : V → St → Prop, (∀ H', Keep [.bes, .strs] H H' → N [o0, o1, o2, o3, some (.ref .bes a), some (.ref .fnd f), some (rowV x), some .none] H' → Qr .none H') →
      (∀ y H', Keep [.bes, .strs] H H' → N [o0, o1, o2, o3, some (.ref .bes a), some (.ref .fnd f), some (rowV x), some (rowV y)] (upd H' .fnd (some (f, rowsV (found ++ [y])))) → Qr (rowV y) H') → callAt defs m (fnOf x) [.ref .bes a, rowV x] H Qr (fun _ => False)) :
    forB (callAt defs (m + 1)) R [6] regB (rowV x) [o0, o1, o2, o3, some (.ref .bes a), some (.ref .fnd f), o6, o7] H N := by
  (walk_at "uus")
  refine eq_bnd (H := H) x ?_
  rw [hx]
  (walk_at "uus")
  refine undoneRow_s hx (hu _ (fun H' k hN => ?_) fun y H' k hN => ?_)
  · (walk_at "uus")
    exact hN
  · have hf' := (k .fnd (by decide)).trans hf
    (walk_at "uus")
    refine b_t (by cases y <;> rfl) ?_
    (walk_at "uus")
    refine o_app hf' (by simp; apply lim_big; (first | lia | omega)) ?_
    (walk_at "uus")
    have eN : (found ++ [y]).map rowV = found.map rowV ++ [rowV y] := by simp
    rw [rowsV, eN] at hN
    exact hN
theorem besInit_s {n : Nat} {s e : Int} (hb : H .bes = some (a, .inst .beside [])) (h : ∀ H' c, H' .bes = some (a, besV c s e) → H' .strs = some (c, strsV [(.same, n)]) → Keep [.bes, .strs] H H' → Q .none H') {m : Nat} : callAt defs (m + 1) .besInit [.ref .bes a, .int n, .int s, .int e] H Q X := by
  refine call_open rfl ?_
  show wpSL _ _ _ ir_besInit [some (.ref .bes a), some (.int n), some (.int s), some (.int e)] _ _
  unfold ir_besInit
  (walk_at "uus")
  intro c
  (walk_at "uus")
  refine h _ c ?_ ?_ (((((Keep.refl).upd (by decide)).upd (by decide)).upd (by decide)).upd (by decide))
  · rw [upd_same]; rfl
  · simp [upd_ne, upd_same, strsV, stV, wv]
section
variable {Tn Ln Rn : List Int}
noncomputable def EndR (f a : Nat) (N : Loc → St → Prop) (o0 o1 o2 o3 : Option V) (T Tn : List Int) (c n : Nat) (H : St) : Prop :=
  ∀ H' found' o6' o7', H' .fnd = some (f, rowsV found') → Hist T found'.reverse Tn → cntB found' ≤ c → found'.length ≤ n → Keep rtags H H' → N [o0, o1, o2, o3, some (.ref .bes a), some (.ref .fnd f), o6', o7'] H'
theorem EndR.go {f a : Nat} {N : Loc → St → Prop} {o0 o1 o2 o3 : Option V} {T Tn : List Int} {c n c' n' : Nat} {H H1 : St} (h : EndR f a N o0 o1 o2 o3 T Tn c n H) (hc : c' ≤ c) (hn : n' ≤ n) (k : Keep rtags H H1) : EndR f a N o0 o1 o2 o3 T Tn c' n' H1 :=
  fun _ _ _ _ x1 x2 x3 x4 k2 => h _ _ _ _ x1 x2 (Nat.le_trans x3 hc) (Nat.le_trans x4 hn) (k.trans k2)
theorem cnt_bnd (found rows : List Row) : cntB found + cntB rows ≤ cntB found + cntB (rows ++ [.bnd]) ∧ cntB (found ++ [.bnd]) + cntB rows ≤ cntB found + cntB (rows ++ [.bnd]) := by
  rw [cntB_app, cntB_app]; constructor
  · (first | lia | omega)
  · (first | lia | omega)
theorem cnt_drop (found rows : List Row) (x : Row) : cntB found + cntB rows ≤ cntB found + cntB (rows ++ [x]) := by
  rw [cntB_app]; (first | lia | omega)
theorem cnt_keep {y : Row} (hy : isB y = false) (found rows : List Row) (x : Row) : cntB (found ++ [y]) + cntB rows ≤ cntB found + cntB (rows ++ [x]) := by
  rw [cntB_app, cntB_app]
  have : cntB [y] = 0 := by simp [cntB, hy]
  (first | lia | omega)
theorem len_drop {α : Type} (found rows : List α) (x : α) : found.length + rows.length ≤ found.length + (rows ++ [x]).length := by rw [List.length_append]; (first | lia | omega)
theorem len_keep {α : Type} (found rows : List α) (x y : α) : (found ++ [y]).length + rows.length = found.length + (rows ++ [x]).length := by rw [List.length_append, List.length_append]; show _ + 1 + _ = _ + (_ + 1); (first | lia | omega)
theorem loopL {m : Nat} {R : V → St → Prop} {N : Loc → St → Prop} {o0 o1 o2 o3 : Option V} (hL0 : L0.length ≤ 10000) (hR0 : R0.length ≤ 10000) (hRn : Rn.length ≤ 10000) {rows : List Row} {L R' : List Int} (T : Two L0 R0 rows L R') :
    ∀ {H : St} {found : List Row} {o6 o7 : Option V}, BesI H a c (InvL Rn.length) L.length R'.length → H .fnd = some (f, rowsV found) → Hist (L ++ 7 :: Rn) found.reverse Tn → found.length + rows.length ≤ 90000 →
    EndR f a N o0 o1 o2 o3 (L0 ++ 7 :: Rn) Tn (cntB found + cntB rows) (found.length + rows.length) H →
    forRec (forB (callAt defs (m + 4)) R [6] regB) ((rows.map rowV).reverse) [o0, o1, o2, o3, some (.ref .bes a), some (.ref .fnd f), o6, o7] H N := by
  induction T with
  | nil =>
    intro H found o6 o7 I hf hh hl h
    exact h H found o6 o7 hf hh (Nat.le_add_right _ _) (Nat.le_add_right _ _) Keep.refl
  | bnd T ih =>
    intro H found o6 o7 I hf hh hl h
    rw [List.map_append, List.reverse_append]
    refine for_cons (reg_bnd hf (Nat.le_trans (Nat.le_add_right _ _) hl) fun H1 found1 g1 g2 k1 => ?_)
    have I1 := I.keep k1 (by decide) (by decide)
    have k2 : Keep rtags H H1 := k1.mono (by decide)
    refine g2.elim (fun q => ?_) fun q => ?_
    · rw [q] at g1
      exact ih I1 g1 hh (Nat.le_trans (len_drop _ _ _) hl) (h.go (cnt_bnd _ _).1 (len_drop _ _ _) k2)
    · rw [q] at g1
      refine ih I1 g1 ?_ (len_keep _ _ _ _ ▸ hl) (h.go (cnt_bnd _ _).2 (Nat.le_of_eq (len_keep _ _ _ _)) k2)
      rw [List.reverse_append]
      exact ⟨hh.ok1, _, rfl, hh⟩
  | @left rows L R' L' x T st hx hb ih =>
    intro H found o6 o7 I hf hh hl h
    have tl := T.len hL0 hR0
    have hl2 := Nat.le_trans (Nat.le_add_right _ _) hl
    rw [List.map_append, List.reverse_append]
    refine for_cons (reg_row (m := m + 3) hx hf hl2 fun Qr q0 q1 => ?_)
    have go : ∀ H1, BesI H1 a c (InvL Rn.length) L.length R'.length → Keep [.bes, .strs] H H1 → Qr (rowV x) H1 := fun H1 I1 k1 =>
      q1 _ H1 k1 (ih (I1.keep (ts := [.fnd]) (Keep.refl.upd (by decide)) (by decide) (by decide)) (upd_same _ _ _) (by
        rw [List.reverse_append]
        refine ⟨⟨by simp, ?_⟩, _, st.left, hh⟩
        simp; (first | lia | omega)) (len_keep _ _ _ _ ▸ hl) (h.go (cnt_keep hx _ _ _) (Nat.le_of_eq (len_keep _ _ _ _)) ((k1.mono (by decide)).upd (by decide))))
    clear q0 q1 h hh ih
    cases x with
    | bnd => cases hx
    | ins p n =>
      obtain ⟨hn, hp, cs, e0_, e1_⟩ := st
      have il := insT_len (cs := cs) hp
      rw [← e1_] at il
      refine LL_ins I (by (first | lia | omega)) hn (by (first | lia | omega)) fun H1 I1 k1 => go H1 ?_ k1
      rw [show L.length = L'.length - n by (first | lia | omega)]
      exact I1
    | del p cs bb =>
      obtain ⟨hc, hp, e0_⟩ := st
      have il := insT_len (cs := cs) hp
      rw [← e0_] at il
      refine LL_del I (by (first | lia | omega)) hc hp fun H1 I1 k1 => go H1 ?_ k1
      rw [il]
      exact I1
  | @right rows L R' R'' x T st hx hb ih =>
    intro H found o6 o7 I hf hh hl h
    have tl := T.len hL0 hR0
    have hx2 : isB (shift (L.length + 1) x) = false := by cases x <;> first | rfl | cases hx
    have hl2 := Nat.le_trans (Nat.le_add_right _ _) hl
    rw [List.map_append, List.reverse_append]
    refine for_cons (reg_row (m := m + 3) hx2 hf hl2 fun Qr q0 q1 => ?_)
    have go : ∀ H1, BesI H1 a c (InvL Rn.length) L.length R'.length → Keep [.bes, .strs] H H1 → Qr .none H1 := fun H1 I1 k1 =>
      q0 H1 k1 (ih I1 ((k1 .fnd (by decide)).trans hf) hh (Nat.le_trans (len_drop _ _ _) hl) (h.go (cnt_drop _ _ _) (len_drop _ _ _) (k1.mono (by decide))))
    clear q0 q1 h hh ih
    cases x with
    | bnd => cases hx
    | ins p n =>
      obtain ⟨hn, hp, cs, e0_, e1_⟩ := st
      have il := insT_len (cs := cs) hp
      rw [← e1_] at il
      refine LR_ins I (by (first | lia | omega)) hn (by (first | lia | omega)) fun H1 I1 k1 => go H1 ?_ k1
      rw [show R'.length = R''.length - n by (first | lia | omega)]
      exact I1
    | del p cs bb =>
      obtain ⟨hc, hp, e0_⟩ := st
      have il := insT_len (cs := cs) hp
      rw [← e0_] at il
      refine LR_del I (by (first | lia | omega)) hc hp fun H1 I1 k1 => go H1 ?_ k1
      rw [il]
      exact I1
end
end
set_option backward.match.sparseCases false
section
variable {H : St} {Q : V → St → Prop} {X : St → Prop} {a c f cl cr : Nat} {L0 R0 : List Int}
variable {Tn Ln Rn : List Int}
theorem loopR {m : Nat} {R : V → St → Prop} {N : Loc → St → Prop} {o0 o1 o2 o3 : Option V} (hL0 : L0.length ≤ 10000) (hR0 : R0.length ≤ 10000) (hLn : Ln.length ≤ 10000) {rows : List Row} {L R' : List Int} (T : Two L0 R0 rows L R') :
    ∀ {H : St} {found : List Row} {o6 o7 : Option V}, BesI H a c (InvR Ln.length) L.length R'.length → H .fnd = some (f, rowsV found) → Hist (Ln ++ 7 :: R') found.reverse Tn → found.length + rows.length ≤ 90000 →
    EndR f a N o0 o1 o2 o3 (Ln ++ 7 :: R0) Tn (cntB found + cntB rows) (found.length + rows.length) H →
    forRec (forB (callAt defs (m + 4)) R [6] regB) ((rows.map rowV).reverse) [o0, o1, o2, o3, some (.ref .bes a), some (.ref .fnd f), o6, o7] H N := by
  induction T with
  | nil =>
    intro H found o6 o7 I hf hh hl h
    exact h H found o6 o7 hf hh (Nat.le_add_right _ _) (Nat.le_add_right _ _) Keep.refl
  | bnd T ih =>
    intro H found o6 o7 I hf hh hl h
    rw [List.map_append, List.reverse_append]
    refine for_cons (reg_bnd hf (Nat.le_trans (Nat.le_add_right _ _) hl) fun H1 found1 g1 g2 k1 => ?_)
    have I1 := I.keep k1 (by decide) (by decide)
    have k2 : Keep rtags H H1 := k1.mono (by decide)
    refine g2.elim (fun q => ?_) fun q => ?_
    · rw [q] at g1
      exact ih I1 g1 hh (Nat.le_trans (len_drop _ _ _) hl) (h.go (cnt_bnd _ _).1 (len_drop _ _ _) k2)
    · rw [q] at g1
      refine ih I1 g1 ?_ (len_keep _ _ _ _ ▸ hl) (h.go (cnt_bnd _ _).2 (Nat.le_of_eq (len_keep _ _ _ _)) k2)
      rw [List.reverse_append]
      exact ⟨hh.ok1, _, rfl, hh⟩
  | @left rows L R' L' x T st hx hb ih =>
    intro H found o6 o7 I hf hh hl h
    have tl := T.len hL0 hR0
    have hl2 := Nat.le_trans (Nat.le_add_right _ _) hl
    rw [List.map_append, List.reverse_append]
    refine for_cons (reg_row (m := m + 3) hx hf hl2 fun Qr q0 q1 => ?_)
    have go : ∀ H1, BesI H1 a c (InvR Ln.length) L.length R'.length → Keep [.bes, .strs] H H1 → Qr .none H1 := fun H1 I1 k1 =>
      q0 H1 k1 (ih I1 ((k1 .fnd (by decide)).trans hf) hh (Nat.le_trans (len_drop _ _ _) hl) (h.go (cnt_drop _ _ _) (len_drop _ _ _) (k1.mono (by decide))))
    clear q0 q1 h hh ih
    cases x with
    | bnd => cases hx
    | ins p n =>
      obtain ⟨hn, hp, cs, e0_, e1_⟩ := st
      have il := insT_len (cs := cs) hp
      rw [← e1_] at il
      refine RL_ins I (by (first | lia | omega)) hn (by (first | lia | omega)) fun H1 I1 k1 => go H1 ?_ k1
      rw [show L.length = L'.length - n by (first | lia | omega)]
      exact I1
    | del p cs bb =>
      obtain ⟨hc, hp, e0_⟩ := st
      have il := insT_len (cs := cs) hp
      rw [← e0_] at il
      refine RL_del I (by (first | lia | omega)) hc hp fun H1 I1 k1 => go H1 ?_ k1
      rw [il]
      exact I1
  | @right rows L R' R'' x T st hx hb ih =>
    intro H found o6 o7 I hf hh hl h
    have tl := T.len hL0 hR0
    have hx2 : isB (shift (L.length + 1) x) = false := by cases x <;> first | rfl | cases hx
    have hx3 : isB (shift (Ln.length + 1) x) = false := by cases x <;> first | rfl | cases hx
    have hl2 := Nat.le_trans (Nat.le_add_right _ _) hl
    rw [List.map_append, List.reverse_append]
    refine for_cons (reg_row (m := m + 3) hx2 hf hl2 fun Qr q0 q1 => ?_)
    have go : ∀ H1, BesI H1 a c (InvR Ln.length) L.length R'.length → Keep [.bes, .strs] H H1 → Qr (rowV (shift (Ln.length + 1) x)) H1 := fun H1 I1 k1 =>
      q1 _ H1 k1 (ih (I1.keep (ts := [.fnd]) (Keep.refl.upd (by decide)) (by decide) (by decide)) (upd_same _ _ _) (by
        rw [List.reverse_append]
        have st2 := st.right (W := Ln ++ [7])
        simp only [List.append_assoc, List.cons_append, List.nil_append, List.length_append, List.length_cons, List.length_nil] at st2
        refine ⟨⟨by simp, ?_⟩, _, st2, hh⟩
        simp; (first | lia | omega)) (len_keep _ _ _ _ ▸ hl) (h.go (cnt_keep hx3 _ _ _) (Nat.le_of_eq (len_keep _ _ _ _)) ((k1.mono (by decide)).upd (by decide))))
    clear q0 q1 h hh ih
    cases x with
    | bnd => cases hx
    | ins p n =>
      obtain ⟨hn, hp, cs, e0_, e1_⟩ := st
      have il := insT_len (cs := cs) hp
      rw [← e1_] at il
      refine RR_ins I (by (first | lia | omega)) hn (by (first | lia | omega)) fun H1 I1 k1 => go H1 ?_ k1
      rw [show R'.length = R''.length - n by (first | lia | omega)]
      exact I1
    | del p cs bb =>
      obtain ⟨hc, hp, e0_⟩ := st
      have il := insT_len (cs := cs) hp
      rw [← e0_] at il
      refine RR_del I (by (first | lia | omega)) hc hp fun H1 I1 k1 => go H1 ?_ k1
      rw [il]
      exact I1
theorem InvL.init (l rr : Nat) : InvL rr [(.same, l + 1 + rr)] 1 (l + 1) l rr :=
  ⟨rfl, rfl, List.replicate rr .same, by rw [fl, fl, rep_split .same rfl]; simp only [List.append_nil], th_same _, hr_same _⟩
theorem InvR.init (l rr : Nat) : InvR l [(.same, l + 1 + rr)] (l + 2) (l + 2 + rr) l rr :=
  ⟨rfl, rfl, List.replicate l .same, by rw [fl, fl, rep_split (a := l) (b := rr + 1) .same (by (first | lia | omega))]; simp only [List.append_nil], th_same _, hr_same _⟩
theorem regionL_s {rows : List Row} {L R : List Int} (T : Two L0 R0 rows L R) (hL0 : L0.length ≤ 10000) (hR0 : R0.length ≤ 10000) (hl : rows.length ≤ 90000) {x y z : Int} (hx : x = (L.length + 1 + R.length : Nat)) (hy : y = 1) (hz : z = L.length + 1)
    (h : ∀ H' out, Hist (L0 ++ 7 :: R) out (L ++ 7 :: R) → cntB out ≤ cntB rows → out.length ≤ rows.length → Keep rtags H H' → Q (.lst (out.map rowV)) H') {m : Nat} : callAt defs (m + 5) .rowsInRegion [.lst (rows.map rowV), .int x, .int y, .int z] H Q X := by
  subst hx hy hz
  have tl := T.len hL0 hR0
  refine call_open rfl ?_
  show wpSL _ _ _ ir_rowsInRegion [some (.lst (rows.map rowV)), some (.int (L.length + 1 + R.length : Nat)), some (.int 1), some (.int (L.length + 1)), .none, .none, .none, .none] _ _
  (walk_at "uus")
  intro a
  refine besInit_s (upd_same _ _ _) fun H1 c b1 b2 k1 => ⟨rfl, ?_⟩
  have k0 : Keep rtags H H1 := ((Keep.refl (H := H)).upd (by decide)).trans (k1.mono (by decide))
  (walk_at "uus")
  intro f
  (walk_at "uu")
  refine s_for' ?_
  (walk_at "uus")
  have k2 : Keep rtags H (upd H1 .fnd (some (f, rowsV []))) := k0.upd (by decide)
  refine loopL (Tn := L ++ 7 :: R) hL0 hR0 tl.2 T (found := []) ⟨_, _, _, (upd_ne H1 _ (by decide)).trans b1, (upd_ne H1 _ (by decide)).trans b2, pos_cons (by (first | lia | omega)) (by intro x hx; cases hx), InvL.init _ _⟩ (upd_same _ _ _) ⟨⟨by simp, by simp; (first | lia | omega)⟩, rfl⟩ (by simp; (first | lia | omega)) fun H2 found o6 o7 x1 x2 x3 x4 k3 => ?_
  simp only [List.length_nil] at x4
  (walk_at "uus")
  rw [← List.map_reverse]
  exact h H2 found.reverse x2 (by simpa [cntB] using x3) (by simp; (first | lia | omega)) (k2.trans k3)
theorem regionR_s {rows : List Row} {L R : List Int} (T : Two L0 R0 rows L R) (hL0 : L0.length ≤ 10000) (hR0 : R0.length ≤ 10000) (hl : rows.length ≤ 90000) {x y z : Int} (hx : x = (L.length + 1 + R.length : Nat)) (hy : y = L.length + 2) (hz : z = L.length + 2 + R.length)
    (h : ∀ H' out, Hist (L ++ 7 :: R0) out (L ++ 7 :: R) → cntB out ≤ cntB rows → out.length ≤ rows.length → Keep rtags H H' → Q (.lst (out.map rowV)) H') {m : Nat} : callAt defs (m + 5) .rowsInRegion [.lst (rows.map rowV), .int x, .int y, .int z] H Q X := by
  subst hx hy hz
  have tl := T.len hL0 hR0
  refine call_open rfl ?_
  show wpSL _ _ _ ir_rowsInRegion [some (.lst (rows.map rowV)), some (.int (L.length + 1 + R.length : Nat)), some (.int (L.length + 2)), some (.int (L.length + 2 + R.length)), .none, .none, .none, .none] _ _
  (walk_at "uus")
  intro a
  refine besInit_s (upd_same _ _ _) fun H1 c b1 b2 k1 => ⟨rfl, ?_⟩
  have k0 : Keep rtags H H1 := ((Keep.refl (H := H)).upd (by decide)).trans (k1.mono (by decide))
  (walk_at "uus")
  intro f
  (walk_at "uu")
  refine s_for' ?_
  (walk_at "uus")
  have k2 : Keep rtags H (upd H1 .fnd (some (f, rowsV []))) := k0.upd (by decide)
  refine loopR (Tn := L ++ 7 :: R) hL0 hR0 tl.1 T (found := []) ⟨_, _, _, (upd_ne H1 _ (by decide)).trans b1, (upd_ne H1 _ (by decide)).trans b2, pos_cons (by (first | lia | omega)) (by intro x hx; cases hx), InvR.init _ _⟩ (upd_same _ _ _) ⟨⟨by simp, by simp; (first | lia | omega)⟩, rfl⟩ (by simp; (first | lia | omega)) fun H2 found o6 o7 x1 x2 x3 x4 k3 => ?_
  simp only [List.length_nil] at x4
  (walk_at "uus")
  rw [← List.map_reverse]
  exact h H2 found.reverse x2 (by simpa [cntB] using x3) (by simp; (first | lia | omega)) (k2.trans k3)
end
set_option backward.match.sparseCases false
theorem abv_app (rows rest : List Row) : ∀ n, n ≤ rows.length → abv (rows ++ rest) n = abv rows n
  | 0, _ => rfl
  | n + 1, h => by
    simp only [abv]
    rw [List.getElem?_append_left (by (first | lia | omega)), abv_app rows rest n (by (first | lia | omega))]
theorem abv_snoc (l : List Row) (x : Row) : abv (l ++ [x]) (l ++ [x]).length = if isB x then abv l l.length else l.length + 1 := by
  have e : (l ++ [x]).length = l.length + 1 := by simp
  rw [e]
  simp only [abv]
  have : (l ++ [x])[l.length]? = some x := by simp
  rw [this]
  simp only
  rw [abv_app l [x] l.length (Nat.le_refl _)]
theorem abv_le (rows : List Row) : ∀ n, abv rows n ≤ n
  | 0 => Nat.le_refl _
  | n + 1 => by
    simp only [abv]
    have := abv_le rows n
    split
    · split
      · (first | lia | omega)
      · (first | lia | omega)
    · (first | lia | omega)
theorem cut_group : ∀ (n : Nat) (l : List Row), l.length = n → ∃ pre G, l = pre ++ G ∧ atB pre = true ∧ noB G := by
  intro x_
  induction x_ with
  | zero =>
    intro l h
    exact ⟨[], [], by simpa using h, rfl, by intro a ha; cases ha⟩
  | succ n ih =>
    intro l h
    rcases List.eq_nil_or_concat l with rfl | ⟨l, x, rfl⟩
    · cases h
    · simp only [List.concat_eq_append] at h ⊢
      by_cases c : isB x = true
      · exact ⟨l ++ [x], [], by simp, by simpa [atB] using c, by intro a ha; cases ha⟩
      · refine @bc _ fun k_ => ?_
        obtain ⟨pre, G, e0_, h1, h2⟩ := ih l (by simpa using h)
        apply k_; clear k_
        subst e0_
        refine ⟨pre, G ++ [x], by simp, h1, ?_⟩
        intro a ha
        rcases List.mem_append.mp ha with ha | ha
        · exact h2 a ha
        · simp at ha; subst ha; simpa using c
theorem noB_cnt {G : List Row} (h : noB G) : cntB G = 0 := by
  unfold cntB; rw [List.countP_eq_zero]; intro a ha; simp [h a ha]
theorem group_split : ∀ (n : Nat) (rows : List Row), rows.length = n → abv rows rows.length ≠ 0 → ∃ pre G bs, rows = pre ++ (G ++ bs) ∧ atB pre = true ∧ noB G ∧ G ≠ [] ∧ abv rows rows.length = pre.length + G.length ∧ (atB rows = true → 1 ≤ cntB bs) := by
  intro x_
  induction x_ with
  | zero =>
    intro rows h h0
    have := List.length_eq_zero_iff.mp h
    subst this
    exact absurd rfl h0
  | succ n ih =>
    intro rows h h0
    rcases List.eq_nil_or_concat rows with rfl | ⟨l, x, rfl⟩
    · cases h
    · simp only [List.concat_eq_append] at h h0 ⊢
      rw [abv_snoc] at h0 ⊢
      by_cases c : isB x = true
      · rw [if_pos c] at h0 ⊢
        refine @bc _ fun k_ => ?_
        obtain ⟨pre, G, bs, e, h1, h2, h3, h4, h5⟩ := ih l (by simpa using h) h0
        apply k_; clear k_
        refine ⟨pre, G, bs ++ [x], by rw [e]; simp, h1, h2, h3, h4, fun _ => ?_⟩
        rw [cntB_app]; simp [cntB, c]
      · rw [if_neg c]
        refine @bc _ fun k_ => ?_
        obtain ⟨pre, G, e0_, h1, h2⟩ := cut_group _ l rfl
        apply k_; clear k_
        subst e0_
        refine ⟨pre, G ++ [x], [], by simp, h1, ?_, by simp, by simp; (first | lia | omega), ?_⟩
        · intro a ha
          rcases List.mem_append.mp ha with ha | ha
          · exact h2 a ha
          · simp at ha; subst ha; simpa using c
        · intro q
          simp only [atB] at q
          rw [List.getLast?_concat] at q
          exact absurd q c
theorem Two.trim {L0 R0 L R : List Int} {rows : List Row} (T : Two L0 R0 rows L R) : Two L0 R0 (rows.take (abv rows rows.length)) L R := by
  have shB : ∀ k x, isB (shift k x) = isB x := by intro k x; cases x <;> rfl
  induction T with
  | nil => exact .nil
  | bnd T ih =>
    rw [abv_snoc, if_pos (show isB .bnd = true from rfl), List.take_append_of_le_length (abv_le _ _)]
    exact ih
  | @left rows L R L' x T st hx hb ih =>
    rw [abv_snoc, if_neg (by rw [hx]; decide), List.take_of_length_le (by simp)]
    exact .left T st hx hb
  | @right rows L R R' x T st hx hb ih =>
    rw [abv_snoc, if_neg (by rw [shB, hx]; decide), List.take_of_length_le (by simp)]
    exact .right T st hx hb
theorem abv_noB {base new : List Row} (hn : new ≠ []) (h : noB new) : abv (base ++ new) (base ++ new).length = (base ++ new).length := by
  rcases List.eq_nil_or_concat new with rfl | ⟨l, x, rfl⟩
  · exact absurd rfl hn
  · simp only [List.concat_eq_append] at h ⊢
    rw [← List.append_assoc, abv_snoc, if_neg (by rw [h x (by simp)]; decide)]
    simp; (first | lia | omega)
theorem atB_noB {base new : List Row} (hn : new ≠ []) (h : noB new) : atB (base ++ new) = false := by
  rcases List.eq_nil_or_concat new with rfl | ⟨l, x, rfl⟩
  · exact absurd rfl hn
  · simp only [List.concat_eq_append] at h ⊢
    rw [← List.append_assoc]
    simpa [atB] using h x (by simp)
section
variable {H : St} {Q : V → St → Prop} {X : St → Prop} {b u n e t r : Nat} {pt tk ct : Int} {T : List Int} {rows : List Row} {pend idle chos : V} {kvs : List (Int × V)}
noncomputable abbrev undV (p i c : V) (e : Nat) : O := .inst .undoing [p, i, c, .ref .eqd e]
theorem o_in {tg : Tag} {a : Nat} {m : List (Int × V)} {k : Int} {P : V → Prop} (h : H tg = some (a, .dict m)) (q : P (.bool (dGet m k).isSome)) : optP (ev2 H .in_ (.int k) (.ref tg a)) P :=
  optP_of (x := .bool (dGet m k).isSome) (by simp [ev2, dictV, h]) q
theorem o_nin {tg : Tag} {a : Nat} {m : List (Int × V)} {k : Int} {P : V → Prop} (h : H tg = some (a, .dict m)) (q : P (.bool (!(dGet m k).isSome))) : optP (ev2 H .nin (.int k) (.ref tg a)) P :=
  optP_of (x := .bool (!(dGet m k).isSome)) (by simp [ev2, dictV, h]) q
theorem o_get {tg : Tag} {a : Nat} {m : List (Int × V)} {k : Int} {d : V} {P : V → Prop} (h : H tg = some (a, .dict m)) (q : P ((dGet m k).getD d)) : optP (ev3 H .get (.ref tg a) (.int k) d) P :=
  optP_of (x := (dGet m k).getD d) (by simp [ev3, dictV, h]) q
theorem isDict {tg : Tag} {a : Nat} {m : List (Int × V)} {P : Prop} (h : H tg = some (a, .dict m)) (q : P) : (dictV H (.ref tg a)).isSome = true ∧ P := ⟨by simp [dictV, h], q⟩
theorem isDict3 {tg : Tag} {a : Nat} {m : List (Int × V)} {P : Prop} (h : H tg = some (a, .dict m)) (q : P) : pre3 H .get (.ref tg a) ∧ P := ⟨by simp [pre3, dictV, h], q⟩
theorem o_setD {tg : Tag} {a : Nat} {m : List (Int × V)} {k : Int} {x : V} {P : St → Prop} (h : H tg = some (a, .dict m)) (hl : m.length ≤ 1000) (q : P (upd H tg (some (a, .dict (dPut m k x))))) : optP (setDict H k x (.ref tg a)) P :=
  optP_of (x := upd H tg (some (a, .dict (dPut m k x)))) ((onO_of h rfl).trans (if_pos (by (first | lia | omega)))) q
theorem o_dpop {tg : Tag} {a : Nat} {m : List (Int × V)} {k : Int} {P : St → Prop} (h : H tg = some (a, .dict m)) (hl : m.length ≤ 1000) (hk : (dGet m k).isSome = true) (q : P (upd H tg (some (a, .dict (dDel m k))))) : optP (dictPop H k (.ref tg a)) P :=
  optP_of (x := upd H tg (some (a, .dict (dDel m k)))) ((onO_of h rfl).trans (if_pos ⟨hk, by (first | lia | omega)⟩)) q
theorem boundary_at (hu : H .ul = some (u, ulV r)) (hr : H .rows = some (r, rowsV rows)) (ha : atB rows = true) (h : Q .none H) {m : Nat} : callAt defs (m + 2) .ulBoundary [.ref .ul u] H Q X := by
  refine call_open rfl ?_
  show wpSL _ _ _ ir_ulBoundary [some (.ref .ul u)] _ _
  unfold ir_ulBoundary
  (walk_at "uus")
  refine isAtBoundary_s hu hr ?_
  rw [ha]
  (walk_at "uus")
  exact h
theorem trimmed_s (hu : H .ul = some (u, ulV r)) (hr : H .rows = some (r, rowsV rows)) (h : Q (.int (abv rows rows.length)) H) {m : Nat} : callAt defs (m + 2) .trimmedCount [.ref .ul u] H Q X := by
  refine call_open rfl ?_
  show wpSL _ _ _ ir_trimmedCount [some (.ref .ul u)] _ _
  unfold ir_trimmedCount
  (walk_at "uus")
  refine aboveR_s hr (n := rows.length) (by simp) (Nat.le_refl _) ?_
  (walk_at "uus")
  rw [Int.zero_add]
  exact h
theorem count_s (hu : H .ul = some (u, ulV r)) (hr : H .rows = some (r, rowsV rows)) (h : Q (.int rows.length) H) {m : Nat} : callAt defs (m + 1) .ulCount [.ref .ul u] H Q X := by
  refine call_open rfl ?_
  show wpSL _ _ _ ir_ulCount [some (.ref .ul u)] _ _
  unfold ir_ulCount
  (walk_at "uus")
  rw [Int.zero_add, List.length_map]
  exact h
theorem lastWasUndo_s (hu : H .ul = some (u, ulV r)) (hr : H .rows = some (r, rowsV rows)) (hn : H .und = some (n, undV pend idle chos e)) (he : H .eqd = some (e, .dict kvs)) (h : Q (.bool (dGet kvs (abv rows rows.length)).isSome) H) {m : Nat} : callAt defs (m + 3) .lastWasUndo [.ref .und n, .ref .ul u] H Q X := by
  refine call_open rfl ?_
  show wpSL _ _ _ ir_lastWasUndo [some (.ref .und n), some (.ref .ul u)] _ _
  (walk_at "uus")
  refine trimmed_s hu hr ?_
  (walk_at "uus")
  refine o_in he ?_
  exact h
theorem isInRow0_s (h : Q (.bool false) H) {m : Nat} : callAt defs (m + 1) .isInRow [.ref .und n, .ref .ul u, .bool false] H Q X := by
  refine call_open rfl ?_
  show wpSL _ _ _ ir_isInRow [some (.ref .und n), some (.ref .ul u), some (.bool false)] _ _
  (walk_at "uus")
  exact h
theorem isInRow1_s (hu : H .ul = some (u, ulV r)) (hr : H .rows = some (r, rowsV rows)) {p : Int} (hp : 1 ≤ p) (hn : H .und = some (n, undV (.int p) .none chos e)) (he : H .eqd = some (e, .dict kvs)) (hk : (dGet kvs (abv rows rows.length)).isSome = true) (h : Q (.bool true) H) {m : Nat} : callAt defs (m + 4) .isInRow [.ref .und n, .ref .ul u, .bool true] H Q X := by
  refine call_open rfl ?_
  show wpSL _ _ _ ir_isInRow [some (.ref .und n), some (.ref .ul u), some (.bool true)] _ _
  unfold ir_isInRow
  (walk_at "uus")
  refine trimmed_s hu hr ?_
  (walk_at "uus")
  refine lastWasUndo_s hu hr hn he ?_
  rw [hk]
  exact h
theorem beginUndo0_s (hu : H .ul = some (u, ulV r)) (hr : H .rows = some (r, rowsV rows)) (ha : atB rows = true) (hn : H .und = some (n, undV pend idle chos e)) (h : Q .none (upd H .und (some (n, undV (.int (abv rows rows.length)) idle .none e)))) {m : Nat} : callAt defs (m + 3) .beginUndo [.ref .und n, .ref .ul u, .bool false] H Q X := by
  refine call_open rfl ?_
  show wpSL _ _ _ ir_beginUndo [some (.ref .und n), some (.ref .ul u), some (.bool false)] _ _
  unfold ir_beginUndo
  (walk_at "uus")
  refine boundary_at hu hr ha ?_
  (walk_at "uus")
  refine isInRow0_s ?_
  (walk_at "uus")
  refine trimmed_s hu hr ?_
  (walk_at "uus")
  rw [upd_upd]
  exact h
theorem beginUndo1_s (hu : H .ul = some (u, ulV r)) (hr : H .rows = some (r, rowsV rows)) (ha : atB rows = true) {p : Int} (hp : 1 ≤ p) (hn : H .und = some (n, undV (.int p) .none chos e)) (he : H .eqd = some (e, .dict kvs)) (hk : (dGet kvs (abv rows rows.length)).isSome = true) (h : Q .none H) {m : Nat} : callAt defs (m + 5) .beginUndo [.ref .und n, .ref .ul u, .bool true] H Q X := by
  refine call_open rfl ?_
  show wpSL _ _ _ ir_beginUndo [some (.ref .und n), some (.ref .ul u), some (.bool true)] _ _
  unfold ir_beginUndo
  (walk_at "uus")
  refine boundary_at hu hr ha ?_
  (walk_at "uus")
  refine isInRow1_s hu hr hp hn he hk ?_
  (walk_at "uus")
  exact h
theorem elderRows_s (hu : H .ul = some (u, ulV r)) (hr : H .rows = some (r, rowsV rows)) (hl : rows.length ≤ 100000) {k : Nat} {x : Int} (hx : x = k) (hk : k ≤ rows.length) (h0 : abv (rows.take k) (rows.take k).length ≠ 0) (h : Q (.lst ((rows.take k).map rowV)) H) {m : Nat} : callAt defs (m + 2) .elderRows [.ref .ul u, .int x] H Q X := by
  subst hx
  refine call_open rfl ?_
  show wpSL _ _ _ ir_elderRows [some (.ref .ul u), some (.int k), .none] _ _
  unfold ir_elderRows
  (walk_at "uus")
  have q : (rows.map rowV).take (clip (rows.map rowV).length (max 0 ((k : Int) - 0))) = (rows.take k).map rowV := by
    rw [clip_of (m := k) (by (first | lia | omega)) (by simpa using hk), List.map_take]
  rw [q]
  refine above_s (n := (rows.take k).length) (by rw [List.length_map]) (Nat.le_refl _) ?_
  (walk_at "uus")
  exact h
theorem comp_pts : ∀ rows : List Row, compRun H (.v 0) (.op2 .ne (.op2 .idx (.v 0) (.int 0)) (.word .point)) 1 (rows.map rowV) = some (rows.map rowV) := by
  intro x_
  induction x_ with
  | nil =>
    exact rfl
  | cons x rows ih =>
    cases x <;> (simp only [List.map, compRun_cons]; simp [rowV, binds1, evP_v, evP_int, evP_word, evP_bool, evP_op1, evP_op2, evP_disp, ev2, eqH_str, eqV_str, seqV, getAt, ih])
theorem dropPoints_s (hu : H .ul = some (u, ulV r)) (hr : H .rows = some (r, rowsV rows)) (hl : rows.length ≤ 100000) {k : Nat} {x : Int} (hx : x = k) (hk : k ≤ rows.length) (h : ∀ r' H', H' .ul = some (u, ulV r') → H' .rows = some (r', rowsV rows) → Keep [.ul, .rows] H H' → Q .none H') {m : Nat} : callAt defs (m + 1) .dropPoints [.ref .ul u, .int x] H Q X := by
  subst hx
  refine call_open rfl ?_
  show wpSL _ _ _ ir_dropPoints [some (.ref .ul u), some (.int k), .none] _ _
  unfold ir_dropPoints
  (walk_at "uus")
  have ec : clip (rows.map rowV).length ((k : Int) - 0) = k := clip_of (by (first | lia | omega)) (by simpa using hk)
  rw [ec, ← List.map_take, ← List.map_drop]
  refine optP_of (comp_pts _) ?_
  refine ⟨by simp only [List.length_map, List.length_drop]; apply lim_big; (first | lia | omega), ?_⟩
  (walk_at "uus")
  rw [← List.map_append, List.take_append_drop]
  intro r'
  (walk_at "uus")
  refine h r' _ ?_ ?_ ((Keep.refl.upd (by decide)).upd (by decide))
  · rw [upd_same]; rfl
  · rw [upd_ne _ _ (by decide), upd_same]
end
set_option backward.match.sparseCases false
noncomputable abbrev utags : List Tag := [.buf, .text, .cells, .rows, .tmp, .ul, .und, .eqd, .bes, .strs, .fnd]
inductive BEx (H : St) (b u : Nat) (T : List Int) (rows : List Row) : Prop | mk (t r : Nat) (pt tk ct : Int) (B : BOk H b t pt tk ct T (some (u, r, rows)))
structure US (H : St) (b u n e : Nat) (T : List Int) (rows : List Row) (pend idle chos : V) (kvs : List (Int × V)) : Prop where
  ex : BEx H b u T rows
  und : H .und = some (n, undV pend idle chos e)
  eqd : H .eqd = some (e, .dict kvs)
theorem BOk.keep {H H' : St} {b t : Nat} {pt tk ct : Int} {T : List Int} {hs : Hs} {ts : List Tag} (B : BOk H b t pt tk ct T hs) (k : Keep ts H H') (h1 : Tag.buf ∉ ts) (h2 : Tag.text ∉ ts) (h3 : Tag.cells ∉ ts) (h4 : Tag.ul ∉ ts) (h5 : Tag.rows ∉ ts) : BOk H' b t pt tk ct T hs :=
  ⟨(k _ h1).trans B.buf, B.gap.keep k h2 h3, B.hist.keep k h4 h5 (Int.le_refl _), B.tk⟩
theorem BOk.rows {H H' : St} {b t u r r' : Nat} {pt tk ct : Int} {T : List Int} {rows rows' : List Row} {ts : List Tag} (B : BOk H b t pt tk ct T (some (u, r, rows))) (k : Keep ts H H') (h1 : Tag.buf ∉ ts) (h2 : Tag.text ∉ ts) (h3 : Tag.cells ∉ ts) (e1 : H' .ul = some (u, ulV r')) (e2 : H' .rows = some (r', rowsV rows')) : BOk H' b t pt tk ct T (some (u, r', rows')) :=
  ⟨(k _ h1).trans B.buf, B.gap.keep k h2 h3, ⟨e1, e2, B.hist.2.2⟩, B.tk⟩
theorem dPut_len (m : List (Int × V)) (k : Int) (v : V) : (dPut m k v).length ≤ m.length + 1 := by
  unfold dPut; split <;> simp
section
variable {H : St} {Q : V → St → Prop} {X : St → Prop} {b u n e t r : Nat} {pt tk ct : Int} {T : List Int} {rows : List Row} {pend idle chos : V} {kvs : List (Int × V)}
theorem endUndo_s {base new : List Row} (U : US H b u n e T (base ++ new) pend idle chos kvs) (hl : (base ++ new).length ≤ 99999) (hn : new ≠ []) (nb : noB new) (hk : kvs.length ≤ 900) {x : Int} (hx : x = base.length)
    (h : ∀ H', US H' b u n e T (base ++ (new ++ [.bnd])) pend .none chos (dPut kvs (base ++ new).length (.int (-1))) → Keep [.ul, .rows, .und, .eqd] H H' → Q .none H') {m : Nat} : callAt defs (m + 3) .endUndo [.ref .und n, .ref .ul u, .int x, .int (-1)] H Q X := by
  subst hx
  refine @bc _ fun k_ => ?_
  obtain ⟨⟨t, r, pt, tk, ct, B⟩, un, ue⟩ := U
  apply k_; clear k_
  have hu := B.hist.1
  have hr := B.hist.2.1
  have nl : 1 ≤ new.length := by cases new with | nil => exact absurd rfl hn | cons => simp
  refine call_open rfl ?_
  show wpSL _ _ _ ir_endUndo [some (.ref .und n), some (.ref .ul u), some (.int base.length), some (.int (-1)), .none] _ _
  (walk_at "uus")
  refine dropPoints_s hu hr (by (first | lia | omega)) (k := base.length) rfl (by simp) fun r' H1 hu1 hr1 k1 => ?_
  have un1 := (k1 .und (by decide)).trans un
  have ue1 := (k1 .eqd (by decide)).trans ue
  (walk_at "uus")
  refine trimmed_s hu1 hr1 ?_
  rw [abv_noB hn nb]
  have gl : base.length < (base ++ new).length := by simp; (first | lia | omega)
  (walk_at "uus")
  refine o_setD ue1 (by (first | lia | omega)) ?_
  (walk_at "uus")
  have B1 := B.rows (r' := r') k1 (by decide) (by decide) (by decide) hu1 hr1
  have hu2 := (upd_ne (upd H1 .und (some (n, undV pend .none chos e))) (t := .eqd) (some (e, .dict (dPut kvs (base ++ new).length (.int (-1))))) (show Tag.ul ≠ .eqd by decide)).trans ((upd_ne H1 (t := .und) (some (n, undV pend .none chos e)) (show Tag.ul ≠ .und by decide)).trans hu1)
  have hr2 := (upd_ne (upd H1 .und (some (n, undV pend .none chos e))) (t := .eqd) (some (e, .dict (dPut kvs (base ++ new).length (.int (-1))))) (show Tag.rows ≠ .eqd by decide)).trans ((upd_ne H1 (t := .und) (some (n, undV pend .none chos e)) (show Tag.rows ≠ .und by decide)).trans hr1)
  refine ulBoundary_s hu2 hr2 (by (first | lia | omega)) fun H3 hr3 k3 => ?_
  rw [atB_noB hn nb, if_neg (by decide)] at hr3
  have k2 : Keep [.und, .eqd] H1 (upd (upd H1 .und (some (n, undV pend .none chos e))) .eqd (some (e, .dict (dPut kvs (base ++ new).length (.int (-1)))))) := ((Keep.refl.upd (by decide)).upd (by decide))
  have B2 := B1.keep k2 (by decide) (by decide) (by decide) (by decide) (by decide)
  (walk_at "uus")
  refine h H3 ⟨⟨t, r', pt, tk, ct, B2.rows (r' := r') k3 (by decide) (by decide) (by decide) ((k3 .ul (by decide)).trans hu2) (by rw [hr3]; simp)⟩, ?_, ?_⟩ ((k1.mono (by decide)).trans ((k2.mono (by decide)).trans (k3.mono (by decide))))
  · rw [k3 .und (by decide), upd_ne _ _ (by decide), upd_same]
  · rw [k3 .eqd (by decide), upd_same]
theorem US.keep {H' : St} {ts : List Tag} (U : US H b u n e T rows pend idle chos kvs) (k : Keep ts H H') (h : ∀ t ∈ [Tag.buf, .text, .cells, .ul, .rows, .und, .eqd], t ∉ ts) : US H' b u n e T rows pend idle chos kvs := by
  refine @bc _ fun k_ => ?_
  obtain ⟨⟨t, r, pt, tk, ct, B⟩, un, ue⟩ := U
  apply k_; clear k_
  exact ⟨⟨t, r, pt, tk, ct, B.keep k (h _ (by decide)) (h _ (by decide)) (h _ (by decide)) (h _ (by decide)) (h _ (by decide))⟩, (k _ (h _ (by decide))).trans un, (k _ (h _ (by decide))).trans ue⟩
theorem US.und' {H' : St} {p i c : V} (U : US H b u n e T rows pend idle chos kvs) (h : H' = upd H .und (some (n, undV p i c e))) : US H' b u n e T rows p i c kvs := by
  subst h
  refine @bc _ fun k_ => ?_
  obtain ⟨⟨t, r, pt, tk, ct, B⟩, un, ue⟩ := U
  apply k_; clear k_
  have k : Keep [.und] H (upd H .und (some (n, undV p i c e))) := Keep.refl.upd (by decide)
  exact ⟨⟨t, r, pt, tk, ct, B.keep k (by decide) (by decide) (by decide) (by decide) (by decide)⟩, upd_same _ _ _, (k _ (by decide)).trans ue⟩
theorem take_pre {pre rest : List Row} : ((pre ++ rest).map rowV).take (clip ((pre ++ rest).map rowV).length (pre.length : Nat)) = pre.map rowV := by
  rw [clip_of (m := pre.length) rfl (by simp), List.map_append, List.take_left' (by simp)]
theorem regionMore_s {base out : List Row} {Tout : List Int} (U : US H b u n e T base pend idle (.lst (out.map rowV)) kvs) (ha : atB base = true) (hh : Hist Tout out T) (hl : base.length + out.length ≤ 99990) (hk : kvs.length ≤ 900)
    (hX : abv out out.length = 0 → X H)
    (hQ : ∀ H' pre new Tp v, atB pre = true → Hist Tout pre Tp → US H' b u n e Tp (base ++ (new ++ [.bnd])) pend .none (.lst (pre.map rowV)) (dPut kvs (base ++ new).length (.int (-1))) → Hist T new Tp → noB new → new ≠ [] →
      pre.length + new.length ≤ out.length → cntB pre ≤ cntB out → (atB out = true → cntB pre + 1 ≤ cntB out) → Keep utags H H' → Q v H') {m : Nat} : callAt defs (m + 12) .regionMore [.ref .und n, .ref .buf b, .ref .ul u, .int 1] H Q X := by
  have U0 := U
  refine @bc _ fun k_ => ?_
  obtain ⟨⟨t, r, pt, tk, ct, B⟩, un, ue⟩ := U
  apply k_; clear k_
  have hu := B.hist.1
  have hr := B.hist.2.1
  refine call_open rfl ?_
  show wpSL _ _ _ ir_regionMore [some (.ref .und n), some (.ref .buf b), some (.ref .ul u), some (.int 1), .none, .none, .none] _ _
  unfold ir_regionMore
  (walk_at "uus")
  refine above_s (n := out.length) (by simp) (Nat.le_refl _) ?_
  by_cases h0 : abv out out.length = 0
  · rw [h0]
    (walk_at "uus")
    exact hX h0
  · (walk_at "uus")
    refine count_s hu hr ?_
    refine @bc _ fun k_ => ?_
    obtain ⟨pre, G, bs, e0_, g1, g2, g3, g4, g5⟩ := group_split _ out rfl h0
    apply k_; clear k_
    subst e0_
    refine @bc _ fun k_ => ?_
    obtain ⟨Tp, hpre, hrest⟩ := hh.split
    obtain ⟨T1, hG, hbs⟩ := hrest.split
    apply k_; clear k_
    have e1 : T1 = T := by
      have : ∀ (bs : List Row) (T1 : List Int), (∀ x ∈ bs, isB x = true) → Hist T1 bs T → T1 = T := by
        intro bs
        induction bs with
        | nil => intro T1 _ h; exact h.2.symm
        | cons x bs ih =>
          intro T1 hx h
          obtain ⟨_, T2, s, h⟩ := h
          have := isB_eq (hx x (by simp))
          subst this
          have e : T2 = T1 := s
          rw [← e]
          exact ih T2 (fun y hy => hx y (List.mem_cons_of_mem _ hy)) h
      refine this bs T1 ?_ hbs
      exact trail g4 (by simpa using g3)
    subst e1
    have cb : cntB (pre ++ (G ++ bs)) = cntB pre + cntB bs := by rw [cntB_app, cntB_app, noB_cnt g2, Nat.zero_add]
    have ll : (pre ++ (G ++ bs)).length = pre.length + (G.length + bs.length) := by simp
    (walk_at "uus")
    rw [show rngItems 0 1 1 = [.int 0] from rfl]
    refine for_step ?_
    (walk_at "uus")
    refine undoGroup_s (T0 := Tp) ha g1 g2 B hG rfl (by (first | lia | omega)) (n := (pre ++ (G ++ bs)).length) (by simp) (Nat.le_refl _) g4 fun H1 pt1 tk1 ct1 new B1 x1 x2 x3 x4 k1 => ?_
    have un1 := (k1 .und (by decide)).trans un
    have ue1 := (k1 .eqd (by decide)).trans ue
    have U1 : US H1 b u n e Tp (base ++ new) pend idle (.lst ((pre ++ (G ++ bs)).map rowV)) kvs := ⟨⟨_, _, _, _, _, B1⟩, un1, ue1⟩
    (walk_at "uus")
    rw [take_pre]
    have U2 := U1.und' (p := pend) (i := idle) (c := .lst (pre.map rowV)) rfl
    refine endUndo_s U2 (by simp; (first | lia | omega)) (x3 g3) x2 hk rfl fun H3 U3 k3 => ?_
    (walk_at "uus")
    refine hQ H3 pre new Tp _ g1 hpre U3 x1 x2 (x3 g3) (by (first | lia | omega)) (by (first | lia | omega)) (fun q => ?_) ?_
    · have := g5 q
      (first | lia | omega)
    · exact ((k1.mono (by decide)).trans ((Keep.refl.upd (by decide)).trans (k3.mono (by decide))))
where
  trail {pre G bs : List Row} (h : abv (pre ++ (G ++ bs)) (pre ++ (G ++ bs)).length = pre.length + G.length) (hG : G ≠ []) : ∀ x ∈ bs, isB x = true := by
    have key : ∀ (k : Nat) (bs : List Row), bs.length = k → ∀ l : List Row, abv (l ++ bs) (l ++ bs).length = l.length → ∀ x ∈ bs, isB x = true := by
      intro k
      induction k with
      | zero => intro bs hb l _ x hx; rw [List.length_eq_zero_iff.mp hb] at hx; cases hx
      | succ k ih =>
        intro bs hb l h x hx
        rcases List.eq_nil_or_concat bs with rfl | ⟨bs, y, rfl⟩
        · cases hx
        · simp only [List.concat_eq_append] at hb h hx
          rw [← List.append_assoc, abv_snoc] at h
          by_cases c : isB y = true
          · rw [if_pos c] at h
            rcases List.mem_append.mp hx with hx | hx
            · exact ih bs (by simpa using hb) l h x hx
            · simp at hx; subst hx; exact c
          · rw [if_neg c] at h
            simp at h; (first | lia | omega)
    exact key _ bs rfl (pre ++ G) (by rw [List.append_assoc, h]; simp)
end
set_option backward.match.sparseCases false
section
variable {H : St} {Q : V → St → Prop} {X : St → Prop} {b u n e t r : Nat} {pt tk ct : Int} {T : List Int} {rows : List Row} {pend idle chos : V} {kvs : List (Int × V)} {L0 R0 L R : List Int}
theorem undoRegion1_s {base : List Row} (U : US H b u n e (L ++ 7 :: R) base pend idle chos kvs) (ha : atB base = true) (h0 : abv base base.length ≠ 0) (Tw : Two L0 R0 base L R) (hL0 : L0.length ≤ 10000) (hR0 : R0.length ≤ 10000) (hl : base.length ≤ 40000) (hk : kvs.length ≤ 900)
    {isL : Bool} {x y : Int} (hx : x = if isL then 1 else (L.length + 2 : Int)) (hy : y = if isL then (L.length + 1 : Int) else L.length + 2 + R.length) {Td : List Int} (hd : Td = if isL then L0 ++ 7 :: R else L ++ 7 :: R0)
    (hX : ∀ H' out p c, Hist Td out (L ++ 7 :: R) → abv out out.length = 0 → US H' b u n e (L ++ 7 :: R) base p idle c kvs → Keep utags H H' → X H')
    (hQ : ∀ H' pre new Tp v, atB pre = true → Hist Td pre Tp → US H' b u n e Tp (base ++ (new ++ [.bnd])) (.int (abv base base.length)) .none (.lst (pre.map rowV)) (dPut kvs (base ++ new).length (.int (-1))) → Hist (L ++ 7 :: R) new Tp → noB new → new ≠ [] →
      pre.length + new.length ≤ base.length → cntB pre ≤ cntB base → Keep utags H H' → Q v H') {m : Nat} : callAt defs (m + 13) .undoInRegion [.ref .und n, .ref .buf b, .int x, .int y, .int 1, .bool false] H Q X := by
  have U0 := U
  refine @bc _ fun k_ => ?_
  obtain ⟨⟨t, r, pt, tk, ct, B⟩, un, ue⟩ := U
  apply k_; clear k_
  have hu := B.hist.1
  have hr := B.hist.2.1
  have hb := B.buf
  have tl := Tw.len hL0 hR0
  have tlen : (base.take (abv base base.length)).length ≤ base.length := by simp; (first | lia | omega)
  refine call_open rfl ?_
  show wpSL _ _ _ ir_undoInRegion [some (.ref .und n), some (.ref .buf b), some (.int x), some (.int y), some (.int 1), some (.bool false), .none, .none, .none] _ _
  unfold ir_undoInRegion
  (walk_at "uus")
  refine isInRow0_s ?_
  (walk_at "uus")
  refine beginUndo0_s hu hr ha un ?_
  have U1 := U0.und' (p := .int (abv base base.length)) (i := idle) (c := .none) rfl
  refine @bc _ fun k_ => ?_
  obtain ⟨⟨t1, r1, pt1, tk1, ct1, B1⟩, un1, ue1⟩ := U1
  apply k_; clear k_
  have hu1 := B1.hist.1
  have hr1 := B1.hist.2.1
  have hb1 := B1.buf
  have k1 : Keep utags H (upd H .und (some (n, undV (.int (abv base base.length)) idle .none e))) := Keep.refl.upd (by decide)
  (walk_at "uus")
  have atT : abv (base.take (abv base base.length)) (base.take (abv base base.length)).length ≠ 0 := trimmed_ne h0
  refine elderRows_s hu1 hr1 (by (first | lia | omega)) (k := abv base base.length) rfl (abv_le _ _) atT ?_
  (walk_at "uus")
  refine bufSize_s hb1 B1.gap ?_
  (walk_at "uus")
  have hxy : x ≤ y := by subst hx hy; cases isL <;> simp <;> (first | lia | omega)
  rw [Int.min_eq_left hxy, Int.max_eq_right hxy]
  have fin : ∀ H2 out, Hist Td out (L ++ 7 :: R) → cntB out ≤ cntB (base.take (abv base base.length)) → out.length ≤ (base.take (abv base base.length)).length → Keep rtags (upd H .und (some (n, undV (.int (abv base base.length)) idle .none e))) H2 → ∀ (o7 o8 : Option V),
      wpSL (callAt defs (m + 12)) X Q (.cons (.ret (.call .regionMore (.cons (.v 0) (.cons (.v 1) (.cons (.v 6) (.cons (.v 4) .nil)))))) .nil)
        [some (.ref .und n), some (.ref .buf b), some (.int x), some (.int y), some (.int 1), some (.bool false), some (.ref .ul u), o7, o8] (upd H2 .und (some (n, undV (.int (abv base base.length)) idle (.lst (out.map rowV)) e))) fun _ H => Q .none H := by
    intro H2 out hh hc hlo k2 o7 o8
    have U2 : US H2 b u n e (L ++ 7 :: R) base (.int (abv base base.length)) idle .none kvs := (US.keep ⟨⟨t1, r1, pt1, tk1, ct1, B1⟩, un1, ue1⟩ k2 (by decide))
    have U3 := U2.und' (p := .int (abv base base.length)) (i := idle) (c := .lst (out.map rowV)) rfl
    have k3 : Keep utags H (upd H2 .und (some (n, undV (.int (abv base base.length)) idle (.lst (out.map rowV)) e))) := (k1.trans (k2.mono (by decide))).upd (by decide)
    have cb : cntB (base.take (abv base base.length)) ≤ cntB base := by
      have := cntB_app (base.take (abv base base.length)) (base.drop (abv base base.length))
      rw [List.take_append_drop] at this
      (first | lia | omega)
    (walk_at "uus")
    refine regionMore_s U3 ha hh (by (first | lia | omega)) hk (fun q => hX _ out _ _ hh q U3 k3) fun H4 pre new Tp v y1 y2 y3 y4 y5 y6 y7 y8 _ k4 => hQ H4 pre new Tp v y1 y2 y3 y4 y5 y6 (by (first | lia | omega)) (by (first | lia | omega)) (k3.trans k4)
  have un2 : ∀ H2, Keep rtags (upd H .und (some (n, undV (.int (abv base base.length)) idle .none e))) H2 → H2 .und = some (n, undV (.int (abv base base.length)) idle .none e) := fun H2 k2 => (k2 .und (by decide)).trans (upd_same _ _ _)
  have esz : ((L ++ 7 :: R).length : Int) = (L.length + 1 + R.length : Nat) := by simp; (first | lia | omega)
  rw [esz]
  cases isL with
  | true =>
    simp only [if_true] at hx hy hd
    subst hd
    refine regionL_s Tw.trim hL0 hR0 (by (first | lia | omega)) rfl hx hy fun H2 out z1 z2 z3 k2 => ?_
    have q := un2 H2 k2
    iterate 3 (walk_at "uu")
    exact fin H2 out z1 z2 z3 k2 _ _
  | false =>
    simp only [Bool.false_eq_true, if_false] at hx hy hd
    subst hd
    refine regionR_s Tw.trim hL0 hR0 (by (first | lia | omega)) rfl hx hy fun H2 out z1 z2 z3 k2 => ?_
    have q := un2 H2 k2
    iterate 3 (walk_at "uu")
    exact fin H2 out z1 z2 z3 k2 _ _
where
  trimmed_ne {base : List Row} (h0 : abv base base.length ≠ 0) : abv (base.take (abv base base.length)) (base.take (abv base base.length)).length ≠ 0 := by
    have key : ∀ (k : Nat) (l : List Row), l.length = k → abv l l.length ≠ 0 → abv (l.take (abv l l.length)) (l.take (abv l l.length)).length ≠ 0 := by
      intro k
      induction k with
      | zero => intro l hl h; rw [List.length_eq_zero_iff.mp hl] at h; exact absurd rfl h
      | succ k ih =>
        intro l hl h
        rcases List.eq_nil_or_concat l with rfl | ⟨l, x, rfl⟩
        · exact absurd rfl h
        · simp only [List.concat_eq_append] at hl h ⊢
          rw [abv_snoc] at h ⊢
          by_cases c : isB x = true
          · rw [if_pos c] at h ⊢
            rw [List.take_append_of_le_length (abv_le _ _)]
            exact ih l (by simpa using hl) h
          · rw [if_neg c, List.take_of_length_le (by simp), abv_snoc, if_neg c]
            (first | lia | omega)
    exact key _ base rfl h0
theorem undoRegion2_s {base out : List Row} {Tout : List Int} {p : Int} (hp : 1 ≤ p) (U : US H b u n e T base (.int p) .none (.lst (out.map rowV)) kvs) (ha : atB base = true) (hkey : (dGet kvs (abv base base.length)).isSome = true) (hh : Hist Tout out T) (hl : base.length + out.length ≤ 99990) (hk : kvs.length ≤ 900) {x y : V}
    (hX : abv out out.length = 0 → X H)
    (hQ : ∀ H' pre new Tp v, atB pre = true → Hist Tout pre Tp → US H' b u n e Tp (base ++ (new ++ [.bnd])) (.int p) .none (.lst (pre.map rowV)) (dPut kvs (base ++ new).length (.int (-1))) → Hist T new Tp → noB new → new ≠ [] →
      pre.length + new.length ≤ out.length → cntB pre ≤ cntB out → (atB out = true → cntB pre + 1 ≤ cntB out) → Keep utags H H' → Q v H') {m : Nat} : callAt defs (m + 13) .undoInRegion [.ref .und n, .ref .buf b, x, y, .int 1, .bool true] H Q X := by
  have U0 := U
  refine @bc _ fun k_ => ?_
  obtain ⟨⟨t, r, pt, tk, ct, B⟩, un, ue⟩ := U
  apply k_; clear k_
  have hu := B.hist.1
  have hr := B.hist.2.1
  have hb := B.buf
  refine call_open rfl ?_
  show wpSL _ _ _ ir_undoInRegion [some (.ref .und n), some (.ref .buf b), some x, some y, some (.int 1), some (.bool true), .none, .none, .none] _ _
  unfold ir_undoInRegion
  (walk_at "uus")
  refine isInRow1_s hu hr hp un ue hkey ?_
  (walk_at "uus")
  refine beginUndo1_s hu hr ha hp un ue hkey ?_
  (walk_at "uus")
  exact regionMore_s U0 ha hh hl hk hX hQ
theorem goOn_s {base : List Row} (U : US H b u n e T base pend idle chos kvs) (hv : ∀ k v, dGet kvs k = some v → v = .int (-1)) (h : ∀ H', US H' b u n e T base .none idle .none kvs → Keep [.und] H H' → Q .none H') {m : Nat} : callAt defs (m + 3) .goOnBehindRedo [.ref .und n, .ref .ul u] H Q X := by
  have U0 := U
  refine @bc _ fun k_ => ?_
  obtain ⟨⟨t, r, pt, tk, ct, B⟩, un, ue⟩ := U
  apply k_; clear k_
  have hu := B.hist.1
  have hr := B.hist.2.1
  refine call_open rfl ?_
  show wpSL _ _ _ ir_goOnBehindRedo [some (.ref .und n), some (.ref .ul u)] _ _
  unfold ir_goOnBehindRedo
  (walk_at "uus")
  have hu1 := (upd_ne H (t := .und) (some (n, undV pend idle .none e)) (show Tag.ul ≠ .und by decide)).trans hu
  have hr1 := (upd_ne H (t := .und) (some (n, undV pend idle .none e)) (show Tag.rows ≠ .und by decide)).trans hr
  have ue1 := (upd_ne H (t := .und) (some (n, undV pend idle .none e)) (show Tag.eqd ≠ .und by decide)).trans ue
  refine isDict3 ue1 ?_
  (walk_at "uus")
  refine trimmed_s hu1 hr1 ?_
  (walk_at "uus")
  refine o_get ue1 ?_
  cases hg : dGet kvs (abv base base.length) with
  | none =>
    simp only [Option.getD_none]
    (walk_at "uus")
    refine h _ (U0.und' ?_) ((Keep.refl.upd (by decide)).upd (by decide))
    rw [upd_upd]; rfl
  | some v =>
    have := hv _ _ hg
    subst this
    simp only [Option.getD_some]
    (walk_at "uus")
    refine h _ (U0.und' ?_) (((Keep.refl.upd (by decide)).upd (by decide)).upd (by decide))
    rw [upd_upd, upd_upd]; rfl
theorem undoRedo_s {base G : List Row} {Tp : List Int} (U : US H b u n e T (base ++ (G ++ [.bnd])) pend idle chos kvs) (ha : atB base = true) (hG : G ≠ []) (nG : noB G) (hg : Hist Tp G T) (hl : base.length + 2 * G.length ≤ 99000) (hk : kvs.length ≤ 900)
    (hkey : (dGet kvs (base ++ G).length).isSome = true) (hv : ∀ k v, dGet (dDel kvs (base ++ G).length) k = some v → v = .int (-1))
    (h : ∀ H' v, US H' b u n e Tp base .none idle .none (dDel kvs (base ++ G).length) → Keep utags H H' → Q v H') {m : Nat} : callAt defs (m + 12) .undoRedo [.ref .und n, .ref .buf b, .int 1] H Q X := by
  have U0 := U
  refine @bc _ fun k_ => ?_
  obtain ⟨⟨t, r, pt, tk, ct, B⟩, un, ue⟩ := U
  apply k_; clear k_
  have hu := B.hist.1
  have hr := B.hist.2.1
  have hb := B.buf
  have etr : abv (base ++ (G ++ [Row.bnd])) (base ++ (G ++ [Row.bnd])).length = (base ++ G).length := by
    rw [← List.append_assoc, abv_snoc, if_pos (show isB Row.bnd = true from rfl), abv_noB hG nG]
  have eat : atB (base ++ (G ++ [Row.bnd])) = true := by rw [← List.append_assoc]; simp [atB, isB]
  refine call_open rfl ?_
  show wpSL _ _ _ ir_undoRedo [some (.ref .und n), some (.ref .buf b), some (.int 1), .none, .none, .none, .none, .none, .none] _ _
  unfold ir_undoRedo
  (walk_at "uus")
  rw [show rngItems 0 (max 1 1) 1 = [.int 0] from rfl]
  refine for_step ?_
  (walk_at "uus")
  refine trimmed_s hu hr ?_
  rw [etr]
  (walk_at "uus")
  refine o_nin ue ?_
  rw [hkey]
  (walk_at "uus")
  have et : ((base ++ (G ++ [Row.bnd])).map rowV).take (clip ((base ++ (G ++ [Row.bnd])).map rowV).length (((base ++ G).length : Nat) - 0)) = (base ++ G).map rowV := by
    have := take_pre (pre := base ++ G) (rest := [Row.bnd])
    rw [List.append_assoc] at this
    rw [Int.sub_zero]
    exact this
  rw [et]
  refine boundary_at hu hr eat ?_
  (walk_at "uus")
  have ea : abv (base ++ G) (base ++ G).length = base.length + G.length := by rw [abv_noB hG nG]; simp
  refine undoGroup_s (T0 := Tp) eat ha nG B hg (rest := []) (rows := base ++ G) (by simp) (by simp; (first | lia | omega)) (n := (base ++ G).length) (by simp) (Nat.le_refl _) ea fun H1 pt1 tk1 ct1 new B1 x1 x2 x3 x4 k1 => ?_
  have un1 := (k1 .und (by decide)).trans un
  have ue1 := (k1 .eqd (by decide)).trans ue
  have hu1 := B1.hist.1
  have hr1 := B1.hist.2.1
  (walk_at "uus")
  refine isDict ue1 ?_
  (walk_at "uus")
  refine o_dpop ue1 (by (first | lia | omega)) hkey ?_
  have hr2 := (upd_ne H1 (t := .eqd) (some (e, .dict (dDel kvs (base ++ G).length))) (show Tag.rows ≠ .eqd by decide)).trans hr1
  have hu2 := (upd_ne H1 (t := .eqd) (some (e, .dict (dDel kvs (base ++ G).length))) (show Tag.ul ≠ .eqd by decide)).trans hu1
  (walk_at "uus")
  rw [List.append_assoc, take_pre]
  (walk_at "uus")
  intro r'
  (walk_at "uus")
  have k2 : Keep [.eqd, .rows, .ul] H1 (upd (upd (upd (upd H1 .eqd (some (e, .dict (dDel kvs (base ++ G).length)))) .rows (some (r', rowsV base))) .ul (some (u, ulV r'))) .ul (some (u, ulV r'))) := ((((Keep.refl.upd (by decide)).upd (by decide)).upd (by decide)).upd (by decide))
  have U2 : US (upd (upd (upd (upd H1 .eqd (some (e, .dict (dDel kvs (base ++ G).length)))) .rows (some (r', rowsV base))) .ul (some (u, ulV r'))) .ul (some (u, ulV r'))) b u n e Tp base pend idle chos (dDel kvs (base ++ G).length) := by
    refine ⟨⟨_, _, _, _, _, B1.rows (r' := r') k2 (by decide) (by decide) (by decide) (upd_same _ _ _) ?_⟩, (k2 .und (by decide)).trans un1, ?_⟩
    · rw [upd_ne _ _ (by decide), upd_ne _ _ (by decide), upd_same]
    · rw [upd_ne _ _ (by decide), upd_ne _ _ (by decide), upd_ne _ _ (by decide), upd_same]
  refine goOn_s U2 hv fun H3 U3 k3 => ?_
  (walk_at "uus")
  exact h H3 _ U3 ((k1.mono (by decide)).trans ((k2.mono (by decide)).trans (k3.mono (by decide))))
end
set_option backward.match.sparseCases false
noncomputable def DeckOk (H : St) (d : Nat) : Prop := ∃ g bigs cs k, H .deck = some (d, .list [.ref .bigs g, .lst (iv cs), .int k]) ∧ H .bigs = some (g, .list (iv bigs)) ∧ 1 ≤ cs.length
theorem DeckOk.keep {H H' : St} {d : Nat} {ts : List Tag} (D : DeckOk H d) (k : Keep ts H H') (h1 : Tag.deck ∉ ts) (h2 : Tag.bigs ∉ ts) : DeckOk H' d := by
  refine @bc _ fun k_ => ?_
  obtain ⟨g, bigs, cs, i, a, b, c⟩ := D
  apply k_; clear k_
  exact ⟨g, bigs, cs, i, (k _ h1).trans a, (k _ h2).trans b, c⟩
section
variable {H : St} {Q : V → St → Prop} {X : St → Prop} {b t u r d n e : Nat} {pt zv tk ct : Int} {un : V} {T : List Int} {hs : Hs}
theorem comp_abs : ∀ l : List Int, ∃ l', compRun H (.op1 .abs (.v 0)) (.bool true) 1 (iv l) = some (iv l') ∧ l'.length ≤ l.length := by
  intro x_
  induction x_ with
  | nil =>
    exact ⟨[], rfl, Nat.le_refl _⟩
  | cons a l ih =>
    obtain ⟨l', h, hl⟩ := ih
    refine ⟨(if a < 0 then -a else a) :: l', ?_, by simp; (first | lia | omega)⟩
    have e : iv (a :: l) = .int a :: iv l := rfl
    rw [e, compRun_cons]
    simp [binds1, evP_v, evP_int, evP_word, evP_bool, evP_op1, evP_op2, evP_disp, ev1, h]
    rfl
theorem comp_bigs : ∀ l : List Int, ∃ l', compRun H (.v 0) (.op2 .ge (.v 0) (.int 1000000000000000000)) 1 (iv l) = some (iv l') ∧ l'.length ≤ l.length := by
  intro x_
  induction x_ with
  | nil =>
    exact ⟨[], rfl, Nat.le_refl _⟩
  | cons a l ih =>
    obtain ⟨l', h, hl⟩ := ih
    have e : iv (a :: l) = .int a :: iv l := rfl
    by_cases c : 1000000000000000000 ≤ a
    · refine ⟨a :: l', ?_, by simp; (first | lia | omega)⟩
      rw [e, compRun_cons]
      simp [binds1, evP_v, evP_int, evP_word, evP_bool, evP_op1, evP_op2, evP_disp, ev2, h, c]
      rfl
    · refine ⟨l', ?_, by simp; (first | lia | omega)⟩
      rw [e, compRun_cons]
      simp [binds1, evP_v, evP_int, evP_word, evP_bool, evP_op1, evP_op2, evP_disp, ev2, h, c]
theorem lawDeck_s {l : List Int} (h : ∀ H' d, DeckOk H' d → Keep [.deck, .bigs] H H' → Q (.ref .deck d) H') {m : Nat} : callAt defs (m + 1) .lawDeck [.lst (iv l)] H Q X := by
  refine call_open rfl ?_
  show wpSL _ _ _ ir_lawDeck [some (.lst (iv l)), .none] _ _
  unfold ir_lawDeck
  (walk_at "uus")
  have e1 : (iv l).take (clip (iv l).length 20) = iv (l.take (clip l.length 20)) := by rw [iv_len, iv_take]
  have c20 : (l.take (clip l.length 20)).length ≤ 20 := by
    have : clip l.length 20 ≤ 20 := by unfold clip; simp; exact Nat.min_le_left _ _
    simp; (first | lia | omega)
  refine @bc _ fun k_ => ?_
  obtain ⟨l1, h1, hl1⟩ := comp_abs (H := H) (l.take (clip l.length 20))
  apply k_; clear k_
  rw [e1]
  refine ⟨by rw [iv_len]; apply lim_big; (first | lia | omega), ?_⟩
  (walk_at "uus")
  refine optP_of h1 ?_
  refine ⟨by rw [iv_len]; apply lim_big; (first | lia | omega), ?_⟩
  (walk_at "uus")
  refine @bc _ fun k_ => ?_
  obtain ⟨l2, h2, hl2⟩ := comp_bigs (H := H) l1
  apply k_; clear k_
  refine optP_of h2 ?_
  refine ⟨by rw [iv_len]; apply lim_big; (first | lia | omega), ?_⟩
  intro g
  (walk_at "uus")
  intro d
  (walk_at "uus")
  refine h _ d ⟨g, l2, l1 ++ [(417 + l1.length : Int)], 0, ?_, ?_, by simp⟩ ((Keep.refl.upd (by decide)).upd (by decide))
  · rw [upd_same, iv_app, iv_len]; rfl
  · rw [upd_ne _ _ (by decide), upd_same]
theorem p_mod {a b : Int} {P : V → Prop} (hb : 0 < b) (q : P (.int (a % b))) : optP (ev2 H .mod (.int a) (.int b)) P :=
  optP_of (x := .int (a % b)) (by simp [ev2, hb]) q
theorem p_fdiv {a b : Int} {P : V → Prop} (hb : 0 < b ∧ b < 1073741824) (q : P (.int (a / b))) : optP (ev2 H .fdiv (.int a) (.int b)) P :=
  optP_of (x := .int (a / b)) (by simp [ev2, hb]) q
theorem p_mul1 {a b : Int} {P : V → Prop} (ha : smallI a = true) (q : P (.int (a * b))) : optP (ev2 H .mul (.int a) (.int b)) P :=
  optP_of (x := .int (a * b)) (by simp [ev2, ha]) q
theorem o_setI {tg : Tag} {a : Nat} {xs : List V} {k : Int} {x : V} {P : St → Prop} (h : H tg = some (a, .list xs)) (hk : 0 ≤ k ∧ k < xs.length) (q : P (upd H tg (some (a, .list (xs.set k.toNat x))))) : optP (setItem H k x (.ref tg a)) P :=
  optP_of (x := upd H tg (some (a, .list (xs.set k.toNat x)))) ((onO_of h rfl).trans (by unfold itemIdx; rw [if_pos hk]; rfl)) q
theorem o_pop {tg : Tag} {a : Nat} {y : V} {xs : List V} {P : St → Prop} (h : H tg = some (a, .list (y :: xs))) (q : P (upd H tg (some (a, .list xs)))) : optP (popFrom H (.ref tg a)) P :=
  optP_of (x := upd H tg (some (a, .list xs))) (onO_of h rfl) q
theorem ne_nilR {tg : Tag} {a : Nat} {ys : List V} {P : V → Prop} (h : H tg = some (a, .list ys)) (q : P (.bool (!ys.isEmpty))) : optP (ev2 H .ne (.ref tg a) (.lst [])) P := by
  refine optP_of (x := .bool (!ys.isEmpty)) ?_ q
  simp only [ev2, eqH, itemsV, h, if_true]
  cases ys <;> rfl
theorem iv_at {l : List Int} {j : Int} (h0 : 0 ≤ j) (h1 : j < l.length) : ∃ x, getAt (iv l) j = some (.int x) := by
  refine ⟨l[j.toNat]'(by (first | lia | omega)), ?_⟩
  rw [getAt_nat (n := j.toNat) (by (first | lia | omega)), iv, List.getElem?_map, List.getElem?_eq_getElem (by (first | lia | omega))]; rfl
theorem lawDraw_s (D : DeckOk H d) {many : Int} (hm : 0 < many ∧ many < 1073741824) (h : ∀ H' v, 0 ≤ v → v < many → DeckOk H' d → Keep [.deck, .bigs] H H' → Q (.int v) H') {m : Nat} : callAt defs (m + 1) .lawDraw [.ref .deck d, .int many] H Q X := by
  refine @bc _ fun k_ => ?_
  obtain ⟨g, bigs, cs, k, hd, hg, hc⟩ := D
  apply k_; clear k_
  refine call_open rfl ?_
  show wpSL _ _ _ ir_lawDraw [some (.ref .deck d), some (.int many), .none, .none] _ _
  unfold ir_lawDraw
  (walk_at "uus")
  refine ne_nilR hg ?_
  (walk_at "uus")
  cases bigs with
  | cons x bigs =>
    have hg' : H .bigs = some (g, .list (.int x :: iv bigs)) := hg
    (walk_at "uus")
    refine p_fdiv hm ?_
    (walk_at "uus")
    refine o_setI hg' ⟨by (first | lia | omega), by simp⟩ ?_
    have e1 : (V.int x :: iv bigs).set (0 : Int).toNat (.int (x / many)) = .int (x / many) :: iv bigs := rfl
    rw [e1]
    have hd2 := (upd_ne H (t := .bigs) (some (g, .list (.int (x / many) :: iv bigs))) (show Tag.deck ≠ .bigs by decide)).trans hd
    have hg2 := upd_same H .bigs (some (g, .list (.int (x / many) :: iv bigs)))
    (walk_at "uus")
    refine b_two (fun c => ?_) (fun c => ?_)
    · (walk_at "uus")
      refine o_pop hg2 ?_
      (walk_at "uus")
      refine p_mod hm.1 ?_
      refine h _ _ (Int.emod_nonneg _ (by (first | lia | omega))) (Int.emod_lt_of_pos _ hm.1) ⟨g, bigs, cs, k, ?_, upd_same _ _ _, hc⟩ ((Keep.refl.upd (by decide)).upd (by decide))
      rw [upd_ne _ _ (by decide), upd_ne _ _ (by decide)]; exact hd
    · (walk_at "uus")
      refine p_mod hm.1 ?_
      refine h _ _ (Int.emod_nonneg _ (by (first | lia | omega))) (Int.emod_lt_of_pos _ hm.1) ⟨g, (x / many) :: bigs, cs, k, ?_, upd_same _ _ _, hc⟩ (Keep.refl.upd (by decide))
      rw [upd_ne _ _ (by decide)]; exact hd
  | nil =>
    (walk_at "uus")
    refine o_setI hd ⟨by (first | lia | omega), by simp⟩ ?_
    have e1 : ([V.ref .bigs g, .lst (iv cs), .int k] : List V).set (2 : Int).toNat (.int (k + 1)) = [V.ref .bigs g, .lst (iv cs), .int (k + 1)] := rfl
    rw [e1]
    have hd2 := upd_same H .deck (some (d, .list [V.ref .bigs g, .lst (iv cs), .int (k + 1)]))
    have hg2 := (upd_ne H (t := .deck) (some (d, .list [V.ref .bigs g, .lst (iv cs), .int (k + 1)])) (show Tag.bigs ≠ .deck by decide)).trans hg
    (walk_at "uus")
    rw [iv_len]
    refine p_mod (by (first | lia | omega)) ?_
    obtain ⟨x, hx⟩ := iv_at (l := cs) (j := (k + 1) % cs.length) (Int.emod_nonneg _ (by (first | lia | omega))) (Int.emod_lt_of_pos _ (by (first | lia | omega)))
    refine o_idxL hx ?_
    (walk_at "uus")
    have sm : smallI ((x + 1640531527 * (k + 1)) % 4294966297) = true := by
      have h1 := Int.emod_nonneg (x + 1640531527 * (k + 1)) (show (4294966297 : Int) ≠ 0 by decide)
      have h2 := Int.emod_lt_of_pos (x + 1640531527 * (k + 1)) (show (0 : Int) < 4294966297 by decide)
      simp only [smallI, decide_eq_true_eq]; (first | lia | omega)
    refine p_mul1 sm ?_
    (walk_at "uus")
    generalize hy : ((x + 1640531527 * (k + 1)) % 4294966297 * ((x + 1640531527 * (k + 1)) % 4294966297) + 122949823 * (k + 1)) = y
    have sm2 : smallI (y % 4294966237) = true := by
      have h1 := Int.emod_nonneg y (show (4294966237 : Int) ≠ 0 by decide)
      have h2 := Int.emod_lt_of_pos y (show (0 : Int) < 4294966237 by decide)
      simp only [smallI, decide_eq_true_eq]; (first | lia | omega)
    refine p_mul1 sm2 ?_
    (walk_at "uus")
    refine p_mod hm.1 ?_
    refine h _ _ (Int.emod_nonneg _ (by (first | lia | omega))) (Int.emod_lt_of_pos _ hm.1) ⟨g, [], cs, k + 1, upd_same _ _ _, hg2, hc⟩ (Keep.refl.upd (by decide))
noncomputable def partsV (T : List Int) : V := .tup [.lst (iv (T.take (T.idxOf 7))), .lst (iv (T.drop (T.idxOf 7 + 1)))]
theorem idx7 {L R : List Int} (h : 7 ∉ L) : (L ++ 7 :: R).idxOf 7 = L.length := by
  rw [List.idxOf_append]
  simp [h]
theorem partsV_eq {L R : List Int} (h : 7 ∉ L) : partsV (L ++ 7 :: R) = .tup [.lst (iv L), .lst (iv R)] := by
  unfold partsV
  rw [idx7 h, drop_app (A := L) rfl]
  simp
theorem lawParts_s (hb : H .buf = some (b, bufV t pt zv tk ct un)) (g : GapOk H t T) (h7 : 7 ∈ T) (hl : T.length ≤ 100000) (h : Q (partsV T) H) {m : Nat} : callAt defs (m + 3) .lawParts [.ref .buf b] H Q X := by
  refine call_open rfl ?_
  show wpSL _ _ _ ir_lawParts [some (.ref .buf b), .none] _ _
  unfold ir_lawParts
  have hi : T.idxOf 7 < T.length := List.idxOf_lt_length_of_mem h7
  (walk_at "uus")
  refine bufSize_s hb g ?_
  (walk_at "uus")
  refine bufCodes_s hb g (p := 0) (q := T.length) (by simp) (by simp) (by (first | lia | omega)) (Nat.le_refl _) ?_
  have e1 : (T.take T.length).drop 0 = T := by simp
  rw [e1]
  have ix : ev2 H .index (.lst (iv T)) (.int 7) = some (.int (T.idxOf 7 : Nat)) := by simp [ev2, itemsV, intsV_iv, h7]
  (walk_at "uus")
  refine optP_of ix ?_
  (walk_at "uus")
  rw [clip_of (m := T.idxOf 7) rfl (by rw [iv_len]; (first | lia | omega)), iv_take]
  refine optP_of ix ?_
  (walk_at "uus")
  rw [clip_of (m := T.idxOf 7 + 1) (by simp) (by rw [iv_len]; (first | lia | omega)), iv_drop]
  exact h
end
set_option backward.match.sparseCases false
theorem ins_of_del {T : List Int} {p q : Nat} (h1 : p ≤ q) (h2 : q ≤ T.length) : insT (delT T p q) p ((T.take q).drop p) = T := by
  have e1 : (T.take p).length = p := by simp; (first | lia | omega)
  delta delT insT
  rw [take_app (A := T.take p) (k := 0) (by (first | lia | omega)), drop_app (A := T.take p) (k := 0) (by (first | lia | omega))]
  simp only [List.take_zero, List.drop_zero, List.append_nil]
  have : T.take p = (T.take q).take p := by rw [List.take_take, Nat.min_eq_left h1]
  rw [this, ← List.append_assoc, List.take_append_drop, List.take_append_drop]
theorem delT_left {L Z : List Int} {p q : Nat} (h1 : p ≤ q) (h2 : q ≤ L.length) : delT (L ++ Z) p q = delT L p q ++ Z := by
  unfold delT
  rw [List.take_append_of_le_length (by (first | lia | omega)), List.drop_append_of_le_length h2]; simp
theorem delT_right {W S : List Int} {p q : Nat} : delT (W ++ S) (W.length + p) (W.length + q) = W ++ delT S p q := by
  unfold delT
  rw [take_app rfl, drop_app rfl]; simp
theorem mid_left {L Z : List Int} {p q : Nat} (h2 : q ≤ L.length) : ((L ++ Z).take q).drop p = (L.take q).drop p := by
  rw [List.take_append_of_le_length h2]
theorem mid_right {W S : List Int} {p q : Nat} : ((W ++ S).take (W.length + q)).drop (W.length + p) = (S.take q).drop p := by
  rw [take_app rfl, drop_app rfl]
theorem Two.last {L0 R0 L R : List Int} {l : List Row} {x : Row} (h : Two L0 R0 (l ++ [x]) L R) : (x = .bnd ∧ Two L0 R0 l L R) ∨
    (∃ L1, Two L0 R0 l L1 R ∧ Step x L1 L ∧ isB x = false ∧ L.length ≤ 10000) ∨
    ∃ R1 y, x = shift (L.length + 1) y ∧ Two L0 R0 l L R1 ∧ Step y R1 R ∧ isB y = false ∧ R.length ≤ 10000 := by
  generalize e : l ++ [x] = rows at h
  cases h with
  | nil => simp at e
  | bnd h =>
    obtain ⟨rfl, e2⟩ := List.append_inj' e rfl
    have : x = .bnd := by simpa using e2
    exact .inl ⟨this, h⟩
  | @left _ _ _ _ y h s hx hb =>
    obtain ⟨rfl, e2⟩ := List.append_inj' e rfl
    have : x = y := by simpa using e2
    subst this
    exact .inr (.inl ⟨_, h, s, hx, hb⟩)
  | @right _ _ R1 _ y h s hx hb =>
    obtain ⟨rfl, e2⟩ := List.append_inj' e rfl
    have : x = shift (L.length + 1) y := by simpa using e2
    exact .inr (.inr ⟨_, _, this, h, s, hx, hb⟩)
theorem Two.noteL {L0 R0 L R : List Int} {rows : List Row} (h : Two L0 R0 rows L R) {p : Nat} {cs : List Int} (hp : p ≤ L.length) (hc : cs ≠ []) (hb : L.length + cs.length ≤ 10000) : Two L0 R0 (noteIns rows p cs.length) (insT L p cs) R := by
  have hl : 1 ≤ cs.length := by cases cs with | nil => exact absurd rfl hc | cons => simp
  rcases noteIns_cases rows p cs.length with q | ⟨l, q, k, rfl, q1, q2⟩
  · rw [q]
    exact .left h ⟨hl, hp, cs, rfl, rfl⟩ rfl (by rw [insT_len hp]; exact hb)
  · rw [q2]
    refine @bc _ fun k_ => ?_
    rcases h.last with ⟨e, _⟩ | ⟨L1, h1, s, _, _⟩ | ⟨R1, y, e, h1, s, hy, _⟩ <;> (apply k_; clear k_)
    · cases e
    · refine @bc _ fun k_ => ?_
      obtain ⟨hk, hq, c1, e0_, e1_⟩ := s
      apply k_; clear k_
      subst e0_ e1_
      subst q1
      rw [insT_insT hq]
      refine .left h1 ⟨by (first | lia | omega), hq, c1 ++ cs, by simp, rfl⟩ rfl ?_
      have := insT_len (cs := c1) hq
      rw [insT_len hq]; simp; (first | lia | omega)
    · cases y with
      | bnd => cases hy
      | del _ _ _ => cases e
      | ins q' k' =>
        simp only [shift, Row.ins.injEq] at e
        (first | lia | omega)
theorem Two.noteR {L0 R0 L R : List Int} {rows : List Row} (h : Two L0 R0 rows L R) {p : Nat} {cs : List Int} (hp : p ≤ R.length) (hc : cs ≠ []) (hb : R.length + cs.length ≤ 10000) : Two L0 R0 (noteIns rows (L.length + 1 + p) cs.length) L (insT R p cs) := by
  have hl : 1 ≤ cs.length := by cases cs with | nil => exact absurd rfl hc | cons => simp
  rcases noteIns_cases rows (L.length + 1 + p) cs.length with q | ⟨l, q, k, rfl, q1, q2⟩
  · rw [q]
    exact .right (x := .ins p cs.length) h ⟨hl, hp, cs, rfl, rfl⟩ rfl (by rw [insT_len hp]; exact hb)
  · rw [q2]
    refine @bc _ fun k_ => ?_
    rcases h.last with ⟨e, _⟩ | ⟨L1, h1, s, _, _⟩ | ⟨R1, y, e, h1, s, hy, _⟩ <;> (apply k_; clear k_)
    · cases e
    · refine @bc _ fun k_ => ?_
      obtain ⟨hk, hq, c1, e0_, e1_⟩ := s
      apply k_; clear k_
      subst e0_ e1_
      have := insT_len (cs := c1) hq
      (first | lia | omega)
    · cases y with
      | bnd => cases hy
      | del _ _ _ => cases e
      | ins q' k' =>
        simp only [shift, Row.ins.injEq] at e
        refine @bc _ fun k_ => ?_
        obtain ⟨e1, e2⟩ := e
        obtain ⟨hk, hq, c1, e3, e0_⟩ := s
        apply k_; clear k_
        subst e0_
        have e4 : p = q' + c1.length := by (first | lia | omega)
        subst e4
        rw [insT_insT hq, e1]
        have hh := Two.right (x := .ins q' (k + cs.length)) (R' := insT R1 q' (c1 ++ cs)) h1 ⟨by (first | lia | omega), hq, c1 ++ cs, by simp; (first | lia | omega), rfl⟩ rfl (by
          have := insT_len (cs := c1) hq
          rw [insT_len hq]; simp; (first | lia | omega))
        exact hh
theorem Two.delL {L0 R0 L R : List Int} {rows : List Row} (h : Two L0 R0 rows L R) (hb : L.length ≤ 10000) {p q : Nat} {bb : Bool} (hp : p < q) (hq : q ≤ L.length) : Two L0 R0 (rows ++ [.del p ((L.take q).drop p) bb]) (delT L p q) R := by
  refine .left h ⟨?_, ?_, (ins_of_del (by (first | lia | omega)) hq).symm⟩ rfl ?_
  · intro e; have := congrArg List.length e; simp at this; (first | lia | omega)
  · rw [delT_len (by (first | lia | omega)) hq]; (first | lia | omega)
  · rw [delT_len (by (first | lia | omega)) hq]; (first | lia | omega)
theorem Two.delR {L0 R0 L R : List Int} {rows : List Row} (h : Two L0 R0 rows L R) (hb : R.length ≤ 10000) {p q : Nat} {bb : Bool} (hp : p < q) (hq : q ≤ R.length) : Two L0 R0 (rows ++ [.del (L.length + 1 + p) ((R.take q).drop p) bb]) L (delT R p q) := by
  refine .right (x := .del p ((R.take q).drop p) bb) h ⟨?_, ?_, (ins_of_del (by (first | lia | omega)) hq).symm⟩ rfl ?_
  · intro e; have := congrArg List.length e; simp at this; (first | lia | omega)
  · rw [delT_len (by (first | lia | omega)) hq]; (first | lia | omega)
  · rw [delT_len (by (first | lia | omega)) hq]; (first | lia | omega)
theorem noteIns_cnt (rows : List Row) (p n : Nat) : cntB (noteIns rows p n) = cntB rows ∧ atB (noteIns rows p n) = false := by
  refine @bc _ fun k_ => ?_
  rcases noteIns_cases rows p n with q | ⟨l, q, k, rfl, q1, q2⟩ <;> (apply k_; clear k_)
  · rw [q, cntB_app]
    exact ⟨by simp [cntB, isB], by simp [atB, isB]⟩
  · rw [q2, cntB_app, cntB_app]
    exact ⟨by simp [cntB, isB], by simp [atB, isB]⟩
theorem not7_ins {L : List Int} {p : Nat} {cs : List Int} (h : 7 ∉ L) (hc : 7 ∉ cs) : 7 ∉ insT L p cs := by
  unfold insT
  simp only [List.mem_append, not_or]
  exact ⟨fun q => h (List.mem_of_mem_take q), hc, fun q => h (List.mem_of_mem_drop q)⟩
theorem not7_del {L : List Int} {p q : Nat} (h : 7 ∉ L) : 7 ∉ delT L p q := by
  unfold delT
  simp only [List.mem_append, not_or]
  exact ⟨fun q => h (List.mem_of_mem_take q), fun q => h (List.mem_of_mem_drop q)⟩
section
variable {H : St} {Q : V → St → Prop} {X : St → Prop} {b u d n e : Nat} {L0 R0 L R : List Int} {rows : List Row}
noncomputable abbrev ctags : List Tag := [.buf, .text, .cells, .rows, .tmp, .deck, .bigs]
noncomputable def CS (H : St) (b u d : Nat) (L0 R0 : List Int) (rows : List Row) (L R : List Int) : Prop := BEx H b u (L ++ 7 :: R) rows ∧ DeckOk H d ∧ Two L0 R0 rows L R ∧ 7 ∉ L
theorem bases3 (fr : Int) (j : Nat) (hfr : 8 ≤ fr) : ∃ cs : List Int, List.take (clip [V.int fr, V.int (fr + 1), V.int (fr + 2)].length (1 + (j : Int))) [V.int fr, V.int (fr + 1), V.int (fr + 2)] = iv cs ∧ cs ≠ [] ∧ cs.length ≤ 3 ∧ 7 ∉ cs := by
  have e2 : List.take (clip [V.int fr, V.int (fr + 1), V.int (fr + 2)].length (1 + (j : Int))) [V.int fr, V.int (fr + 1), V.int (fr + 2)] = iv ([fr, fr + 1, fr + 2].take (1 + j)) := by
    show List.take (if (1 + (j : Int)) < 0 then _ else Nat.min (1 + (j : Int)).toNat 3) _ = _
    rw [if_neg (by (first | lia | omega)), show (1 + (j : Int)).toNat = 1 + j by (first | lia | omega)]
    rw [← iv_take]
    show List.take (min (1 + j) 3) _ = _
    rw [← List.take_take]; rfl
  refine ⟨_, e2, fun q => ?_, by simp; (first | lia | omega), fun q => ?_⟩
  · have := congrArg List.length q; simp at this
  · have := List.mem_of_mem_take q
    simp at this; (first | lia | omega)
theorem ins_right {L R cs : List Int} {s : Nat} : insT (L ++ 7 :: R) (L.length + 1 + s) cs = L ++ 7 :: insT R s cs := by
  have := insT_right (W := L ++ [7]) (S := R) (p := s) (cs := cs)
  simpa using this
theorem del_right {L R : List Int} {p q : Nat} : delT (L ++ 7 :: R) (L.length + 1 + p) (L.length + 1 + q) = L ++ 7 :: delT R p q ∧ ((L ++ 7 :: R).take (L.length + 1 + q)).drop (L.length + 1 + p) = (R.take q).drop p :=
  ⟨by have := delT_right (W := L ++ [7]) (S := R) (p := p) (q := q); simpa using this, by have := mid_right (W := L ++ [7]) (S := R) (p := p) (q := q); simpa using this⟩
noncomputable def chgIR : SL := (.cons (.asg 4 (.call .lawDraw (.cons (.v 0) (.cons (.op2 .add (.op1 .len (.v 9)) (.int 1)) .nil))))
    (.cons (.asg 5 (.op2 .min (.call .lawDraw (.cons (.v 0) (.cons (.int 4) .nil))) (.op2 .sub (.op1 .len (.v 9)) (.v 4))))
    (.cons (.ite (.op2 .lt (.v 5) (.int 1))
      (.cons (.ex (.call .insertAt (.cons (.v 1) (.cons (.op2 .add (.v 8) (.v 4)) (.cons (.frz (.upt (.frz (.disp (.cons (.v 2) (.cons (.op2 .add (.v 2) (.int 1)) (.cons (.op2 .add (.v 2) (.int 2)) .nil))))) (.op2 .add (.int 1) (.call .lawDraw (.cons (.v 0) (.cons (.int 3) .nil)))))) .nil)))))
    .nil)
      (.cons (.ex (.call .delete (.cons (.v 1) (.cons (.op2 .add (.v 8) (.v 4)) (.cons (.op2 .add (.op2 .add (.v 8) (.v 4)) (.v 5)) .nil)))))
    .nil))
    .nil)))
theorem changed_rest {T own : List Int} {base t r : Nat} {pt tk ct bi : Int} {o3 o6 o7 : Option V} (B : BOk H b t pt tk ct T (some (u, r, rows))) (D : DeckOk H d) (hol : own.length ≤ 5000) (hbo : base + own.length ≤ T.length) (hT : T.length ≤ 10001) (hl : rows.length ≤ 40000) {fr : Int} (hfr : 8 ≤ fr) (hbi : bi = base + 1)
    (hI : ∀ H' s cs, s ≤ own.length → cs ≠ [] → cs.length ≤ 3 → 7 ∉ cs → BEx H' b u (insT T (base + s) cs) (noteIns rows (base + s) cs.length) → DeckOk H' d → Keep ctags H H' → ∀ v, Q v H')
    (hD : ∀ H' s k bb, 1 ≤ k → s + k ≤ own.length → BEx H' b u (delT T (base + s) (base + (s + k))) (rows ++ [.del (base + s) ((T.take (base + (s + k))).drop (base + s)) bb]) → DeckOk H' d → Keep ctags H H' → ∀ v, Q v H') {m : Nat} :
    wpSL (callAt defs (m + 7)) X Q chgIR [some (.ref .deck d), some (.ref .buf b), some (.int fr), o3, .none, .none, o6, o7, some (.int bi), some (.lst (iv own))] H fun _ H => Q .none H := by
  unfold chgIR
  (walk_at "uus")
  rw [iv_len]
  refine lawDraw_s D (by (first | lia | omega)) fun H2 v2 b1 b2 D2 k2 => ?_
  (walk_at "uus")
  refine lawDraw_s D2 (by (first | lia | omega)) fun H3 v3 c1 c2 D3 k3 => ?_
  have k13 := k2.trans k3
  have B3 := B.keep k13 (by decide) (by decide) (by decide) (by decide) (by decide)
  obtain ⟨s, hs⟩ : ∃ s : Nat, v2 = s := ⟨v2.toNat, by (first | lia | omega)⟩
  subst hs
  (walk_at "uus")
  rw [iv_len]
  refine b_two (fun e1 => ?_) (fun e1 => ?_)
  · (walk_at "uus")
    refine lawDraw_s D3 (by (first | lia | omega)) fun H4 v4 d1 d2 D4 k4 => ?_
    have k14 := k13.trans k4
    have B4 := B.keep k14 (by decide) (by decide) (by decide) (by decide) (by decide)
    (walk_at "uus")
    obtain ⟨j, hj⟩ : ∃ j : Nat, v4 = j := ⟨v4.toNat, by (first | lia | omega)⟩
    subst hj
    obtain ⟨cs, e2, e3, e4, e5⟩ := bases3 fr j hfr
    rw [e2]
    refine insertAt_s B4 (by simp [hsLen]; (first | lia | omega)) (p := base + s) (by (first | lia | omega)) (by (first | lia | omega)) e3 (by (first | lia | omega)) fun H5 pt' ct' B5 k5 => ?_
    (walk_at "uus")
    exact hI H5 s cs (by (first | lia | omega)) e3 e4 e5 ⟨_, _, _, _, _, B5⟩ (D4.keep k5 (by decide) (by decide)) ((k14.mono (by decide)).trans (k5.mono (by decide))) _
  · obtain ⟨k, hk⟩ : ∃ k : Nat, min v3 ((own.length : Int) - s) = k := ⟨(min v3 ((own.length : Int) - s)).toNat, by (first | lia | omega)⟩
    rw [hk] at e1 ⊢
    have hk2 : s + k ≤ own.length := by (first | lia | omega)
    (walk_at "uus")
    refine delete_s B3 (by simp [hsLen]; (first | lia | omega)) (p := base + s) (q := base + (s + k)) (by (first | lia | omega)) (by (first | lia | omega)) (by (first | lia | omega)) (by (first | lia | omega)) fun H5 pt' ct' bb v B5 k5 => ?_
    (walk_at "uus")
    exact hD H5 s k bb (by (first | lia | omega)) hk2 ⟨_, _, _, _, _, B5⟩ (D3.keep k5 (by decide) (by decide)) ((k13.mono (by decide)).trans (k5.mono (by decide))) _
theorem del_notes (rows : List Row) (a : Nat) (c : List Int) (bb : Bool) : (rows ++ [Row.del a c bb]).length ≤ rows.length + 1 ∧ cntB (rows ++ [.del a c bb]) = cntB rows ∧ atB (rows ++ [.del a c bb]) = false := ⟨by simp, by rw [cntB_app]; simp [cntB, isB], by simp [atB, isB]⟩
theorem lawChanged_s (C : CS H b u d L0 R0 rows L R) (hb1 : L.length ≤ 5000) (hb2 : R.length ≤ 5000) (hl : rows.length ≤ 40000) {fr : Int} (hfr : 8 ≤ fr)
    (h : ∀ H' rows' L' R' v, CS H' b u d L0 R0 rows' L' R' → L'.length ≤ L.length + 3 → R'.length ≤ R.length + 3 → rows'.length ≤ rows.length + 1 → cntB rows' = cntB rows → atB rows' = false → Keep ctags H H' → Q v H') {m : Nat} : callAt defs (m + 8) .lawChanged [.ref .deck d, .ref .buf b, .int fr] H Q X := by
  refine @bc _ fun k_ => ?_
  obtain ⟨⟨t, r, pt, tk, ct, B⟩, D, Tw, h7⟩ := C
  apply k_; clear k_
  have hT : (L ++ 7 :: R).length = L.length + 1 + R.length := by simp; (first | lia | omega)
  refine call_open rfl ?_
  show wpSL _ _ _ ir_lawChanged [some (.ref .deck d), some (.ref .buf b), some (.int fr), .none, .none, .none, .none, .none, .none, .none] _ _
  unfold ir_lawChanged
  (walk_at "uus")
  refine lawParts_s B.buf B.gap (by simp) (by (first | lia | omega)) ?_
  rw [partsV_eq h7]
  (walk_at "uus")
  refine lawDraw_s D (by (first | lia | omega)) fun H1 v1 a1 a2 D1 k1 => ?_
  have B1 := B.keep k1 (by decide) (by decide) (by decide) (by decide) (by decide)
  have k01 : Keep ctags H H1 := k1.mono (by decide)
  (walk_at "uus")
  refine b_two (fun e1 => ?_) (fun e1 => ?_)
  · have q := changed_rest (X := X) (Q := Q) (m := m) (base := 0) (own := L) (bi := 1) (o3 := some (.bool true)) (o6 := some (.lst (iv L))) (o7 := some (.lst (iv R))) B1 D1 hb1 (by (first | lia | omega)) (by (first | lia | omega)) hl hfr rfl
      (fun H' s cs hs e3 e4 e5 B5 D5 k5 v => by
        rw [Nat.zero_add, insT_left hs] at B5
        have il := insT_len (cs := cs) hs
        have n1 := noteIns_cnt rows s cs.length
        exact h H' _ (insT L s cs) R v ⟨B5, D5, Tw.noteL hs e3 (by (first | lia | omega)), not7_ins h7 e5⟩ (by (first | lia | omega)) (by (first | lia | omega)) (noteIns_len rows s cs.length).1 n1.1 n1.2 (k01.trans k5))
      (fun H' s k bb hk hk2 B5 D5 k5 v => by
        rw [Nat.zero_add, Nat.zero_add, delT_left (by (first | lia | omega)) hk2, mid_left hk2] at B5
        have dl := delT_len (T := L) (p := s) (q := s + k) (by (first | lia | omega)) hk2
        have n1 := del_notes rows s ((L.take (s + k)).drop s) bb
        exact h H' _ (delT L s (s + k)) R v ⟨B5, D5, Tw.delL (by (first | lia | omega)) (by (first | lia | omega)) hk2, not7_del h7⟩ (by (first | lia | omega)) (by (first | lia | omega)) n1.1 n1.2.1 n1.2.2 (k01.trans k5))
    rw [decide_eq_true e1]
    iterate 10 (walk_at "uu")
    exact q
  · have q := changed_rest (X := X) (Q := Q) (m := m) (base := L.length + 1) (own := R) (bi := L.length + 2) (o3 := some (.bool false)) (o6 := some (.lst (iv L))) (o7 := some (.lst (iv R))) B1 D1 hb2 (by (first | lia | omega)) (by (first | lia | omega)) hl hfr (by (first | lia | omega))
      (fun H' s cs hs e3 e4 e5 B5 D5 k5 v => by
        rw [ins_right] at B5
        have il := insT_len (cs := cs) hs
        have n1 := noteIns_cnt rows (L.length + 1 + s) cs.length
        exact h H' _ L (insT R s cs) v ⟨B5, D5, Tw.noteR hs e3 (by (first | lia | omega)), h7⟩ (by (first | lia | omega)) (by (first | lia | omega)) (noteIns_len rows (L.length + 1 + s) cs.length).1 n1.1 n1.2 (k01.trans k5))
      (fun H' s k bb hk hk2 B5 D5 k5 v => by
        rw [del_right.1, del_right.2] at B5
        have dl := delT_len (T := R) (p := s) (q := s + k) (by (first | lia | omega)) hk2
        have n1 := del_notes rows (L.length + 1 + s) ((R.take (s + k)).drop s) bb
        exact h H' _ L (delT R s (s + k)) v ⟨B5, D5, Tw.delR (by (first | lia | omega)) (by (first | lia | omega)) hk2, h7⟩ (by (first | lia | omega)) (by (first | lia | omega)) n1.1 n1.2.1 n1.2.2 (k01.trans k5))
    rw [decide_eq_false e1]
    iterate 13 (walk_at "uu")
    rw [iv_len]
    exact q
end
set_option backward.match.sparseCases false
noncomputable abbrev Gs := List (List Row × List Int)
noncomputable def rowsOf (base : List Row) : Gs → List Row
  | [] => base
  | (G, _) :: r => rowsOf base r ++ (G ++ [.bnd])
noncomputable def textOf (T0 : List Int) : Gs → List Int
  | [] => T0
  | (_, T) :: _ => T
noncomputable def chain (T0 : List Int) : Gs → Prop
  | [] => True
  | (G, T) :: r => Hist (textOf T0 r) G T ∧ noB G ∧ G ≠ [] ∧ chain T0 r
noncomputable def keysOf (base : List Row) : Gs → List (Int × V)
  | [] => []
  | (G, _) :: r => keysOf base r ++ [((((rowsOf base r ++ G).length : Nat) : Int), V.int (-1))]
noncomputable def metOf : Gs → List V
  | [] => []
  | (_, T) :: r => metOf r ++ [partsV T]
theorem keys_len (base : List Row) : ∀ gs : Gs, (keysOf base gs).length = gs.length
  | [] => rfl
  | (G, T) :: r => by simp [keysOf, keys_len base r]
theorem met_len : ∀ gs : Gs, (metOf gs).length = gs.length
  | [] => rfl
  | (G, T) :: r => by simp [metOf, met_len r]
theorem keys_lt (base : List Row) : ∀ gs : Gs, ∀ kv ∈ keysOf base gs, kv.1 < (rowsOf base gs).length
  | [], kv, h => by cases h
  | (G, T) :: r, kv, h => by
    simp only [keysOf, List.mem_append, List.mem_singleton] at h
    simp only [rowsOf, List.length_append, List.length_cons, List.length_nil]
    rcases h with h | rfl
    · have := keys_lt base r kv h
      (first | lia | omega)
    · simp; (first | lia | omega)
theorem keys_val (base : List Row) : ∀ gs : Gs, ∀ kv ∈ keysOf base gs, kv.2 = .int (-1)
  | [], kv, h => by cases h
  | (G, T) :: r, kv, h => by
    simp only [keysOf, List.mem_append, List.mem_singleton] at h
    rcases h with h | rfl
    · exact keys_val base r kv h
    · rfl
theorem dGet_mem {m : List (Int × V)} {k : Int} {v : V} (h : dGet m k = some v) : (k, v) ∈ m := by
  refine @bc _ fun k_ => ?_
  obtain ⟨kv, h1, h2⟩ := Option.map_eq_some_iff.mp h
  apply k_; clear k_
  have := List.find?_some h1
  simp at this
  have hm := List.mem_of_find?_eq_some h1
  obtain ⟨a, b⟩ := kv
  simp at this h2
  subst this h2
  exact hm
theorem find_none {m : List (Int × V)} {k : Int} (h : ∀ kv ∈ m, kv.1 < k) : m.find? (fun kv => decide (kv.1 = k)) = none := by
  rw [List.find?_eq_none]
  intro kv hkv
  have := h kv hkv
  simp; (first | lia | omega)
theorem dGet_last {m : List (Int × V)} {k : Int} {v : V} (h : ∀ kv ∈ m, kv.1 < k) : dGet (m ++ [(k, v)]) k = some v := by
  unfold dGet
  rw [List.find?_append, find_none h]
  simp
theorem dPut_new {m : List (Int × V)} {k : Int} {v : V} (h : ∀ kv ∈ m, kv.1 < k) : dPut m k v = m ++ [(k, v)] := by
  unfold dPut
  rw [if_neg]
  intro q
  rw [List.any_eq_true] at q
  obtain ⟨kv, h1, h2⟩ := q
  have := h kv h1
  simp at h2; (first | lia | omega)
theorem dDel_last {m : List (Int × V)} {k : Int} {v : V} (h : ∀ kv ∈ m, kv.1 < k) : dDel (m ++ [(k, v)]) k = m := by
  unfold dDel
  rw [List.filter_append]
  have : m.filter (fun kv => decide (kv.1 ≠ k)) = m := by
    rw [List.filter_eq_self]
    intro kv hkv
    have := h kv hkv
    simp; (first | lia | omega)
  rw [this]
  simp
theorem keys_ltG (base : List Row) (r : Gs) (G : List Row) : ∀ kv ∈ keysOf base r, kv.1 < ((rowsOf base r ++ G).length : Nat) := by
  intro kv h
  have := keys_lt base r kv h
  simp; (first | lia | omega)
theorem rowsOf_atB {base : List Row} (h : atB base = true) : ∀ gs : Gs, atB (rowsOf base gs) = true
  | [] => h
  | (G, T) :: r => by simp only [rowsOf]; rw [← List.append_assoc]; simp [atB, isB]
theorem rowsOf_abv {base : List Row} {G : List Row} {T : List Int} {r : Gs} (hn : G ≠ []) (nb : noB G) : abv (rowsOf base ((G, T) :: r)) (rowsOf base ((G, T) :: r)).length = (rowsOf base r ++ G).length := by
  simp only [rowsOf]
  rw [← List.append_assoc, abv_snoc, if_pos (show isB Row.bnd = true from rfl), abv_noB hn nb]
theorem hist_bnds : ∀ {bs : List Row} {T1 T : List Int}, (∀ x ∈ bs, isB x = true) → Hist T1 bs T → T1 = T
  | [], T1, T, _, h => h.2.symm
  | x :: bs, T1, T, hx, h => by
    refine @bc _ fun k_ => ?_
    obtain ⟨_, T2, s, h⟩ := h
    apply k_; clear k_
    have := isB_eq (hx x (by simp))
    subst this
    have e : T2 = T1 := s
    rw [← e]
    exact hist_bnds (fun y hy => hx y (List.mem_cons_of_mem _ hy)) h
theorem all_bnd {rows : List Row} (h : abv rows rows.length = 0) : ∀ x ∈ rows, isB x = true := by
  have key : ∀ (k : Nat) (l : List Row), l.length = k → abv l l.length = 0 → ∀ x ∈ l, isB x = true := by
    intro k
    induction k with
    | zero => intro l hl _ x hx; rw [List.length_eq_zero_iff.mp hl] at hx; cases hx
    | succ k ih =>
      intro l hl h x hx
      rcases List.eq_nil_or_concat l with rfl | ⟨l, y, rfl⟩
      · cases hx
      · simp only [List.concat_eq_append] at hl h hx
        rw [abv_snoc] at h
        by_cases c : isB y = true
        · rw [if_pos c] at h
          rcases List.mem_append.mp hx with hx | hx
          · exact ih l (by simpa using hl) h x hx
          · simp at hx; subst hx; exact c
        · rw [if_neg c] at h
          (first | lia | omega)
  exact key _ rows rfl h
section
variable {H : St} {Q : V → St → Prop} {X : St → Prop} {b u n e a : Nat} {L0 R0 L R T0 Td : List Int} {base : List Row}
noncomputable abbrev wtags : List Tag := [.buf, .text, .cells, .rows, .tmp, .ul, .und, .eqd, .bes, .strs, .fnd, .met]
noncomputable abbrev undT : E := .op2 .lt (.op1 .len (.v 3)) (.int 30)
noncomputable abbrev undB : SL := (.cons (.asgT [4, 5] (.call .lawParts (.cons (.v 0) .nil)))
    (.cons (.asgT [6, 7] (.ite (.v 2) (.tup (.cons (.int 1) (.cons (.op2 .add (.op1 .len (.v 4)) (.int 1)) .nil))) (.tup (.cons (.op2 .add (.op1 .len (.v 4)) (.int 2)) (.cons (.op2 .add (.meth .bufSize (.v 0) .nil) (.int 1)) .nil)))))
    (.cons (.try_ (.call .undoInRegion (.cons (.v 1) (.cons (.v 0) (.cons (.v 6) (.cons (.v 7) (.cons (.int 1) (.cons (.op2 .ne (.v 3) (.frz (.disp .nil))) .nil))))))) 3)
    (.cons (.app (.v 3) (.call .lawParts (.cons (.v 0) .nil)))
    .nil))))
inductive UEx (H : St) (b u n e : Nat) (T : List Int) (rows : List Row) (ks : List (Int × V)) : Prop | mk (p i c : V) (U : US H b u n e T rows p i c ks)
inductive Done (H : St) (b u n e a : Nat) (T0 Td : List Int) (base : List Row) (gs : Gs) : Prop | mk (c : chain T0 gs) (t : textOf T0 gs = Td) (x : UEx H b u n e (textOf T0 gs) (rowsOf base gs) (keysOf base gs)) (m : H .met = some (a, .list (metOf gs))) (l : gs.length ≤ 30) (r : (rowsOf base gs).length ≤ 45000)
theorem met_ne : ∀ {gs : Gs}, gs ≠ [] → (metOf gs).isEmpty = false
  | [], h => absurd rfl h
  | (_, _) :: _, _ => by simp [metOf]
theorem key_last {T0 : List Int} {base : List Row} : ∀ {gs : Gs}, gs ≠ [] → chain T0 gs → (dGet (keysOf base gs) (abv (rowsOf base gs) (rowsOf base gs).length)).isSome = true
  | [], h, _ => absurd rfl h
  | (G, _) :: r, _, hc => by
    rw [rowsOf_abv hc.2.2.1 hc.2.1]
    simp only [keysOf]
    rw [dGet_last (keys_ltG base r G)]; rfl
theorem undone_loop {m : Nat} {Rr : V → St → Prop} {N : Loc → St → Prop} {isL : Bool} (ha : atB base = true) : ∀ (k : Nat) {H : St} {gs : Gs} {pre : List Row} {p : Int} {o4 o5 o6 o7 : Option V}, gs ≠ [] → US H b u n e (textOf T0 gs) (rowsOf base gs) (.int p) .none (.lst (pre.map rowV)) (keysOf base gs) → 1 ≤ p →
    chain T0 gs → Hist Td pre (textOf T0 gs) → atB pre = true → cntB pre < k → gs.length + cntB pre ≤ 25 → (rowsOf base gs).length + 2 * pre.length ≤ 44000 → H .met = some (a, .list (metOf gs)) →
    (∀ H' gs, Done H' b u n e a T0 Td base gs → Keep wtags H H' → Rr (.ref .met a) H') →
    whlRec (tst (callAt defs (m + 13)) undT) (bdy (callAt defs (m + 13)) Rr undB) k [some (.ref .buf b), some (.ref .und n), some (.bool isL), some (.ref .met a), o4, o5, o6, o7] H N := by
  intro k
  induction k with
  | zero => exact fun _ _ _ _ _ _ hk => absurd hk (Nat.not_lt_zero _)
  | succ k ih =>
    intro H gs pre p o4 o5 o6 o7 hg U hp hc hh hb hk hlen hsz hm h
    refine whl_step ?_
    have gl := met_len gs
    have okT := hh.ok2
    refine @bc _ fun k_ => ?_
    obtain ⟨⟨t, r, pt, tk, ct, B⟩, un, ue⟩ := id U
    apply k_; clear k_
    have hbuf := B.buf
    have hmn := met_ne hg
    have hkey := key_last (base := base) hg hc
    have tail : ∀ (x y : V) (o4 o5 : Option V), wpSL (callAt defs (m + 13)) (fun _ => False) Rr (.cons (.try_ (.call .undoInRegion (.cons (.v 1) (.cons (.v 0) (.cons (.v 6) (.cons (.v 7) (.cons (.int 1) (.cons (.op2 .ne (.v 3) (.frz (.disp .nil))) .nil))))))) 3)
        (.cons (.app (.v 3) (.call .lawParts (.cons (.v 0) .nil))) .nil)) [some (.ref .buf b), some (.ref .und n), some (.bool isL), some (.ref .met a), o4, o5, some x, some y] H
        fun r H => whlRec (tst (callAt defs (m + 13)) undT) (bdy (callAt defs (m + 13)) Rr undB) k r H N := by
      intro x y o4 o5
      (walk_at "uus")
      refine ne_nilR hm ?_
      rw [hmn]
      (walk_at "uus")
      refine undoRegion2_s hp U (rowsOf_atB ha gs) hkey hh (by (first | lia | omega)) (by rw [keys_len]; (first | lia | omega)) (fun q => ?_) fun H1 pre1 new Tp v y1 y2 y3 y4 y5 y6 y7 y8 y9 k1 => ?_
      · (walk_at "uus")
        have e := hist_bnds (all_bnd q) hh
        exact h H gs ⟨hc, e.symm, ⟨_, _, _, U⟩, hm, by (first | lia | omega), by (first | lia | omega)⟩ Keep.refl
      · have c1 := y9 hb
        have hm1 := (k1 .met (by decide)).trans hm
        have B1 := y3.ex
        refine @bc _ fun k_ => ?_
        obtain ⟨t1, r1, pt1, tk1, ct1, B1⟩ := B1
        apply k_; clear k_
        have ok1 := y2.ok2
        have nl : 1 ≤ new.length := List.length_pos_iff.mpr y6
        (walk_at "uus")
        refine lawParts_s B1.buf B1.gap ok1.1 (by have := ok1.2; (first | lia | omega)) ?_
        (walk_at "uus")
        refine o_app hm1 (by rw [gl]; apply lim_big; (first | lia | omega)) ?_
        (walk_at "uus")
        have hm2 := upd_same H1 .met (some (a, .list (metOf gs ++ [partsV Tp])))
        have k2 : Keep [.met] H1 (upd H1 .met (some (a, .list (metOf gs ++ [partsV Tp])))) := Keep.refl.upd (by decide)
        have k3 : Keep wtags H (upd H1 .met (some (a, .list (metOf gs ++ [partsV Tp])))) := (k1.mono (by decide)).trans (k2.mono (by decide))
        have U2 := y3.keep k2 (by decide)
        rw [dPut_new (keys_ltG base gs new)] at U2
        refine ih (gs := (new, Tp) :: gs) (by simp) U2 hp ⟨y4, y5, y6, hc⟩ y2 y1 (by (first | lia | omega)) (by simp; (first | lia | omega)) (by simp [rowsOf]; (first | lia | omega)) hm2 fun H3 gs3 d3 k4 => h H3 gs3 d3 (k3.trans k4)
    (walk_at "uus")
    refine lawParts_s B.buf B.gap okT.1 (by have := okT.2; (first | lia | omega)) ?_
    (walk_at "uus")
    refine b_any (fun c => ?_) (fun c => ?_)
    · iterate 13 (walk_at "uu")
      exact tail _ _ _ _
    · (walk_at "uus")
      refine bufSize_s B.buf B.gap ?_
      iterate 5 (walk_at "uu")
      exact tail _ _ _ _
theorem lawUndone_s {idle chos pend : V} (U : US H b u n e (L ++ 7 :: R) base pend idle chos []) (ha : atB base = true) (h0 : abv base base.length ≠ 0) (Tw : Two L0 R0 base L R) (hL0 : L0.length ≤ 10000) (hR0 : R0.length ≤ 10000) (hl : base.length ≤ 10000) (hc : cntB base ≤ 20) (h7 : 7 ∉ L) {isL : Bool}
    (hd : Td = if isL then L0 ++ 7 :: R else L ++ 7 :: R0)
    (h : ∀ H' a gs, Done H' b u n e a (L ++ 7 :: R) Td base gs → Keep wtags H H' → Q (.ref .met a) H') {m : Nat} : callAt defs (m + 14) .lawUndone [.ref .buf b, .ref .und n, .bool isL] H Q X := by
  have tl := Tw.len hL0 hR0
  refine call_open rfl ?_
  show wpSL _ _ _ ir_lawUndone [some (.ref .buf b), some (.ref .und n), some (.bool isL), .none, .none, .none, .none, .none] _ _
  unfold ir_lawUndone
  (walk_at "uus")
  intro a
  have km : Keep [.met] H (upd H .met (some (a, .list []))) := Keep.refl.upd (by decide)
  have U1 := U.keep km (by decide)
  have hm : upd H .met (some (a, .list [])) .met = some (a, .list []) := upd_same _ _ _
  have kw : Keep wtags H (upd H .met (some (a, .list []))) := km.mono (by decide)
  generalize upd H .met (some (a, .list [])) = H0 at *
  refine @bc _ fun k_ => ?_
  obtain ⟨⟨t, r, pt, tk, ct, B⟩, un, ue⟩ := id U1
  apply k_; clear k_
  have hbuf := B.buf
  (walk_at "uu")
  refine s_whl' ⟨22, ?_⟩
  refine whl_step ?_
  have ln : (L ++ 7 :: R).length = L.length + 1 + R.length := by simp; (first | lia | omega)
  have tail : ∀ (x y : Int) (o4 o5 : Option V), x = (if isL then 1 else (L.length + 2 : Int)) → y = (if isL then (L.length + 1 : Int) else L.length + 2 + R.length) →
      wpSL (callAt defs (m + 13)) (fun _ => False) Q (.cons (.try_ (.call .undoInRegion (.cons (.v 1) (.cons (.v 0) (.cons (.v 6) (.cons (.v 7) (.cons (.int 1) (.cons (.op2 .ne (.v 3) (.frz (.disp .nil))) .nil))))))) 3)
        (.cons (.app (.v 3) (.call .lawParts (.cons (.v 0) .nil))) .nil)) [some (.ref .buf b), some (.ref .und n), some (.bool isL), some (.ref .met a), o4, o5, some (.int x), some (.int y)] H0
        fun r H => whlRec (tst (callAt defs (m + 13)) undT) (bdy (callAt defs (m + 13)) Q undB) 21 r H (fun r H => wpSL (callAt defs (m + 13)) X Q (.cons (.ret (.v 3)) .nil) r H fun _ H => Q .none H) := by
    intro x y o4 o5 hx hy
    (walk_at "uus")
    refine ne_nilR hm ?_
    (walk_at "uus")
    refine undoRegion1_s U1 ha h0 Tw hL0 hR0 (by (first | lia | omega)) (by simp) hx hy hd (fun H1 out p c y1 y2 U2 k1 => ?_) fun H1 pre1 new Tp v y1 y2 y3 y4 y5 y6 y7 y8 k1 => ?_
    · (walk_at "uus")
      have e := hist_bnds (all_bnd y2) y1
      exact h H1 a [] ⟨trivial, e.symm, ⟨_, _, _, U2⟩, (k1 .met (by decide)).trans hm, by simp, by simp only [rowsOf]; (first | lia | omega)⟩ (kw.trans (k1.mono (by decide)))
    · have hm1 := (k1 .met (by decide)).trans hm
      refine @bc _ fun k_ => ?_
      obtain ⟨t1, r1, pt1, tk1, ct1, B1⟩ := y3.ex
      apply k_; clear k_
      have ok1 := y2.ok2
      have nl : 1 ≤ new.length := by cases new with | nil => exact absurd rfl y6 | cons => simp
      (walk_at "uus")
      refine lawParts_s B1.buf B1.gap ok1.1 (by have := ok1.2; (first | lia | omega)) ?_
      (walk_at "uus")
      refine o_app hm1 (by simp [lim]) ?_
      (walk_at "uus")
      have hm2 := upd_same H1 .met (some (a, .list ([] ++ [partsV Tp])))
      have k2 : Keep [.met] H1 (upd H1 .met (some (a, .list ([] ++ [partsV Tp])))) := Keep.refl.upd (by decide)
      have k3 : Keep wtags H0 (upd H1 .met (some (a, .list ([] ++ [partsV Tp])))) := (k1.mono (by decide)).trans (k2.mono (by decide))
      have U2 := y3.keep k2 (by decide)
      rw [dPut_new (m := []) (by simp)] at U2
      refine undone_loop (gs := [(new, Tp)]) ha 21 (by simp) U2 (by (first | lia | omega)) ⟨y4, y5, y6, trivial⟩ y2 y1 (by (first | lia | omega)) (by simp; (first | lia | omega)) (by simp [rowsOf]; (first | lia | omega)) hm2 fun H3 gs3 d3 k4 => h H3 a gs3 d3 (kw.trans (k3.trans k4))
  (walk_at "uus")
  refine lawParts_s B.buf B.gap (by simp) (by (first | lia | omega)) ?_
  rw [partsV_eq h7]
  (walk_at "uus")
  cases isL with
  | true =>
    iterate 14 (walk_at "uu")
    exact tail _ _ _ _ rfl (by simp [iv_len])
  | false =>
    (walk_at "uus")
    refine bufSize_s B.buf B.gap ?_
    iterate 5 (walk_at "uu")
    exact tail _ _ _ _ (by simp [iv_len]) (by rw [ln]; simp; (first | lia | omega))
end
set_option backward.match.sparseCases false
section
variable {H : St} {Q : V → St → Prop} {X : St → Prop} {b u d n e a : Nat} {L0 R0 L R T0 Td : List Int} {base : List Row}
theorem gapInit_s {t : Nat} (ht : H .text = some (t, .inst .gap [])) (h : ∀ H', GapOk H' t [] → Keep gtags H H' → Q .none H') {m : Nat} : callAt defs (m + 1) .gapInit [.ref .text t, .lst [], .int 8] H Q X := by
  refine call_open rfl ?_
  show wpSL _ _ _ ir_gapInit [some (.ref .text t), some (.lst []), some (.int 8)] _ _
  unfold ir_gapInit
  (walk_at "uus")
  refine ⟨by (first | lia | omega), ?_⟩
  (walk_at "uus")
  intro c
  have ht2 : upd (upd H .text (some (t, .inst .gap ([] ++ [.int 8])))) .cells (some (c, .list ([] ++ List.replicate (8 : Int).toNat (V.int 0)))) .text = some (t, .inst .gap ([] ++ [.int 8])) := by
    rw [upd_ne _ _ (by decide), upd_same]
  (walk_at "uus")
  refine h _ ⟨c, [], List.replicate 8 0, [], ⟨?_, ?_, by simp⟩, rfl⟩ (((((Keep.refl).upd (by decide)).upd (by decide)).upd (by decide)).upd (by decide) |>.upd (by decide))
  · rw [upd_same]; rfl
  · rw [upd_ne _ _ (by decide), upd_ne _ _ (by decide), upd_ne _ _ (by decide), upd_same]; rfl
theorem mkInit_s {t : Nat} (ht : H .tmp = some (t, .inst .markers [])) (h : Q .none (upd H .tmp (some (t, .inst .markers [.edict])))) {m : Nat} : callAt defs (m + 1) .mkInit [.ref .tmp t] H Q X := by
  refine call_open rfl ?_
  show wpSL _ _ _ ir_mkInit [some (.ref .tmp t)] _ _
  unfold ir_mkInit
  (walk_at "uus")
  exact h
theorem set_new {C : CallT} {R : V → St → Prop} {N : Loc → St → Prop} {r : Loc} {rest : SL} {xs : List V} {i : Nat} {ex : E} {v : V} (hr : (r[0]?).join = some (.ref .buf b)) (hi : i = xs.length) (hp : ∀ H, evP H r ex = some v)
    (k : wpSL C X R rest r (upd H .buf (some (b, .inst .buffer (xs ++ [v])))) N) : wpSL C X R (.cons (.setF (.v 0) .buffer i ex) rest) r (upd H .buf (some (b, .inst .buffer xs))) N := by
  refine s_cons (s_setF (evP_wp _ (hp _) (e_v hr (o_newF (upd_same _ _ _) hi ?_))))
  rw [upd_upd]
  exact k
theorem bufInit_s (hb : H .buf = some (b, .inst .buffer [])) (h : ∀ H' t, BOk H' b t 1 1 1 [] .none → Keep [.buf, .text, .cells, .tmp] H H' → Q .none H') {m : Nat} : callAt defs (m + 2) .bufInit [.ref .buf b, .int 1, .str .a] H Q X := by
  refine call_open rfl ?_
  show wpSL _ _ _ ir_bufInit [some (.ref .buf b), some (.int 1), some (.str .a), some (.int 8)] _ _
  rw [anchor hb]
  refine set_new rfl rfl (fun _ => rfl) ?_
  refine set_new rfl rfl (fun _ => rfl) ?_
  have hb0 : upd H .buf (some (b, .inst .buffer ([] ++ [V.int 1] ++ [V.str .a]))) .buf = some (b, .inst .buffer [.int 1, .str .a]) := upd_same _ _ _
  iterate 11 (walk_at "uu")
  intro t
  refine gapInit_s (upd_same _ _ _) fun H1 g k1 => ⟨rfl, ?_⟩
  have hb1 : H1 .buf = some (b, .inst .buffer [.int 1, .str .a]) := by
    rw [k1 .buf (by decide), upd_ne _ _ (by decide), upd_same]; rfl
  have k1' : Keep [.buf, .text, .cells, .tmp] H H1 := (((Keep.refl.upd (by decide)).upd (by decide))).trans (k1.mono (by decide))
  refine e_v rfl (o_newF hb1 rfl ?_)
  have g2 : GapOk (upd H1 .buf (some (b, .inst .buffer ([.int 1, .str .a] ++ [.ref .text t])))) t [] := g.keep (ts := [.buf]) (Keep.refl.upd (by decide)) (by decide) (by decide)
  have k2 : Keep [.buf, .text, .cells, .tmp] H (upd H1 .buf (some (b, .inst .buffer ([.int 1, .str .a] ++ [.ref .text t])))) := k1'.upd (by decide)
  have hb2 := upd_same H1 .buf (some (b, .inst .buffer ([.int 1, .str .a] ++ [.ref .text t])))
  generalize upd H1 .buf (some (b, .inst .buffer ([.int 1, .str .a] ++ [.ref .text t]))) = H2 at *
  (walk_at "uu"); (walk_at "uu"); (walk_at "uu"); (walk_at "uu")
  intro t2
  refine mkInit_s (upd_same _ _ _) ⟨rfl, ?_⟩
  rw [upd_upd]
  refine optP_of (x := [.edict]) (by simp [fldsV, upd_same]) ?_
  rw [upd_upd]
  have hb3 : upd H2 .tmp .none .buf = some (b, .inst .buffer [.int 1, .str .a, .ref .text t]) := by rw [upd_ne _ _ (by decide), hb2]; rfl
  refine e_v rfl (o_newF hb3 rfl ?_)
  have g3 : GapOk (upd H2 .tmp .none) t [] := g2.keep (ts := [.tmp]) (Keep.refl.upd (by decide)) (by decide) (by decide)
  have k3 : Keep [.buf, .text, .cells, .tmp] H (upd H2 .tmp .none) := k2.upd (by decide)
  generalize upd H2 .tmp .none = H3 at *
  simp only [List.cons_append, List.nil_append]
  iterate 16 (refine set_new rfl rfl (fun _ => rfl) ?_; simp only [List.cons_append, List.nil_append])
  refine h _ t ⟨?_, ?_, trivial, by decide⟩ (k3.upd (by decide))
  · rw [upd_same]; rfl
  · exact g3.keep (ts := [.buf]) (Keep.refl.upd (by decide)) (by decide) (by decide)
theorem ulInit_s (hb : H .ul = some (u, .inst .ulist [])) (h : ∀ H' r, H' .ul = some (u, ulV r) → H' .rows = some (r, rowsV []) → Keep [.ul, .rows] H H' → Q .none H') {m : Nat} : callAt defs (m + 1) .ulInit [.ref .ul u] H Q X := by
  refine call_open rfl ?_
  show wpSL _ _ _ ir_ulInit [some (.ref .ul u)] _ _
  unfold ir_ulInit
  (walk_at "uus")
  intro r
  have hb1 : upd H .rows (some (r, .list [])) .ul = some (u, .inst .ulist []) := by rw [upd_ne _ _ (by decide)]; exact hb
  (walk_at "uus")
  refine h _ r ?_ ?_ ((((((Keep.refl).upd (by decide)).upd (by decide)).upd (by decide)).upd (by decide) |>.upd (by decide)).upd (by decide))
  · rw [upd_same]; rfl
  · rw [upd_ne _ _ (by decide), upd_ne _ _ (by decide), upd_ne _ _ (by decide), upd_ne _ _ (by decide), upd_ne _ _ (by decide), upd_same]; rfl
theorem recInit_s {t : Nat} (hb : H .tmp = some (t, .inst .recording [])) (h : ∀ H' u r, H' .ul = some (u, ulV r) → H' .rows = some (r, rowsV []) → H' .tmp = some (t, .inst .recording [.ref .ul u]) → Keep [.ul, .rows, .tmp] H H' → Q .none H') {m : Nat} : callAt defs (m + 2) .recInit [.ref .tmp t] H Q X := by
  refine call_open rfl ?_
  show wpSL _ _ _ ir_recInit [some (.ref .tmp t)] _ _
  unfold ir_recInit
  (walk_at "uus")
  intro u
  refine ulInit_s (upd_same _ _ _) fun H1 r h1 h2 k1 => ⟨rfl, ?_⟩
  have hb1 : H1 .tmp = some (t, .inst .recording []) := by rw [k1 .tmp (by decide), upd_ne _ _ (by decide)]; exact hb
  (walk_at "uus")
  refine h _ u r ?_ ?_ ?_ ((Keep.refl.upd (by decide)).trans ((k1.mono (by decide)).trans (Keep.refl.upd (by decide))))
  · rw [upd_ne _ _ (by decide)]; exact h1
  · rw [upd_ne _ _ (by decide)]; exact h2
  · rw [upd_same]; rfl
theorem undInit_s (hb : H .und = some (n, .inst .undoing [])) (h : ∀ H' e, H' .und = some (n, undV .none .none .none e) → H' .eqd = some (e, .dict []) → Keep [.und, .eqd] H H' → Q .none H') {m : Nat} : callAt defs (m + 1) .undInit [.ref .und n] H Q X := by
  refine call_open rfl ?_
  show wpSL _ _ _ ir_undInit [some (.ref .und n)] _ _
  unfold ir_undInit
  (walk_at "uus")
  intro e
  (walk_at "uus")
  refine h _ e ?_ ?_ (((((Keep.refl).upd (by decide)).upd (by decide)).upd (by decide)).upd (by decide) |>.upd (by decide))
  · rw [upd_same]; rfl
  · rw [upd_ne _ _ (by decide), upd_same]
end
set_option backward.match.sparseCases false
section
variable {H : St} {Q : V → St → Prop} {X : St → Prop} {b u d n e a : Nat} {L0 R0 L R T0 Td : List Int} {base rows : List Row}
theorem p_range {i : Int} {P : V → Prop} (hi : i < 2147483648) (q : P (.rng 0 i 1)) : optP (ev1 H .range (.int i)) P :=
  optP_of (x := .rng 0 i 1) (by simp [ev1, hi]) q
theorem iter_rng {i : Int} {P : List V → Prop} (hi : 0 ≤ i ∧ i < 2147483648) (q : P (rngItems 0 i 1)) : optP (iterOf (.rng 0 i 1)) P := by
  refine optP_of (x := rngItems 0 i 1) ?_ q
  simp only [iterOf]
  rw [if_pos (by (first | lia | omega))]
theorem rng_up {i : Int} (hi : 0 ≤ i) : rngItems 0 i 1 = (List.range i.toNat).map fun (j : Nat) => V.int j := by
  delta rngItems rngLen
  rw [if_pos (by decide)]
  have : (if (0 : Int) < i then ((i - 0 - 1) / 1 + 1).toNat else 0) = i.toNat := by
    split
    · congr 1; (first | lia | omega)
    · (first | lia | omega)
  rw [this]
  apply List.map_congr_left
  intro j _
  congr 1; (first | lia | omega)
theorem comp_add (c : Int) : ∀ l : List Nat, compRun H (.op2 .add (.int c) (.v 0)) (.bool true) 1 (l.map fun (j : Nat) => V.int j) = some (iv (l.map fun (j : Nat) => c + j)) := by
  intro x_
  induction x_ with
  | nil =>
    exact rfl
  | cons j l ih =>
    simp only [List.map_cons, compRun_cons]
    simp [binds1, evP_v, evP_int, evP_word, evP_bool, evP_op1, evP_op2, evP_disp, ev2, ih, iv]
noncomputable def LS (H : St) (b u d n e : Nat) (L0 R0 : List Int) (rows : List Row) (L R : List Int) : Prop := CS H b u d L0 R0 rows L R ∧ H .und = some (n, undV .none .none .none e) ∧ H .eqd = some (e, .dict [])
noncomputable abbrev innB : SL := (.cons (.ex (.call .lawChanged (.cons (.v 6) (.cons (.v 7) (.cons (.op2 .add (.op2 .add (.op2 .mul (.int 10) (.v 2)) (.int 120)) (.op2 .mul (.int 5) (.v 9))) .nil)))))
    .nil)
noncomputable abbrev outB : SL := (.cons (.for_ [9] (.op1 .range (.op2 .add (.int 1) (.call .lawDraw (.cons (.v 6) (.cons (.int 2) .nil)))))
      innB)
    (.cons (.ex (.meth .ulBoundary (.op1 (.fld .recording 0) (.op1 (.fld .buffer 14) (.v 7))) .nil))
    .nil))
theorem inner_loop {m : Nat} {Rr : V → St → Prop} {N : Loc → St → Prop} {o0 o1 o3 o4 o5 o8 o10 o11 o12 o13 : Option V} {i : Nat} : ∀ (js : List Nat) {H : St} {rows : List Row} {L R : List Int} {o9 : Option V}, LS H b u d n e L0 R0 rows L R → L.length + 3 * js.length ≤ 4000 → R.length + 3 * js.length ≤ 4000 → rows.length + js.length ≤ 30000 →
    (∀ H' rows' L' R' o9', LS H' b u d n e L0 R0 rows' L' R' → L'.length ≤ L.length + 3 * js.length → R'.length ≤ R.length + 3 * js.length → rows'.length ≤ rows.length + js.length → cntB rows' = cntB rows → (js ≠ [] ∨ atB rows = false → atB rows' = false) →
      N [o0, o1, some (.int i), o3, o4, o5, some (.ref .deck d), some (.ref .buf b), o8, o9', o10, o11, o12, o13] H') →
    forRec (forB (callAt defs (m + 8)) Rr [9] innB) (js.map fun (j : Nat) => V.int j) [o0, o1, some (.int i), o3, o4, o5, some (.ref .deck d), some (.ref .buf b), o8, o9, o10, o11, o12, o13] H N := by
  intro x_
  induction x_ with
  | nil =>
    intro H rows L R o9 S h1 h2 h3 h
    exact h H rows L R o9 S (by simp) (by simp) (by simp) rfl (by simp)
  | cons j js ih =>
    intro H rows L R o9 S h1 h2 h3 h
    refine @bc _ fun k_ => ?_
    obtain ⟨C, un, ue⟩ := S
    apply k_; clear k_
    simp only [List.length_cons] at h1 h2 h3 h
    refine for_step ?_
    (walk_at "uus")
    refine lawChanged_s C (by (first | lia | omega)) (by (first | lia | omega)) (by (first | lia | omega)) (by (first | lia | omega)) fun H1 rows1 L1 R1 v C1 x1 x2 x3 x4 x5 k1 => ?_
    (walk_at "uus")
    refine ih ⟨C1, (k1 .und (by decide)).trans un, (k1 .eqd (by decide)).trans ue⟩ (by (first | lia | omega)) (by (first | lia | omega)) (by (first | lia | omega)) fun H2 rows2 L2 R2 o9' S2 y1 y2 y3 y4 y5 => ?_
    refine h H2 rows2 L2 R2 o9' S2 (by (first | lia | omega)) (by (first | lia | omega)) (by (first | lia | omega)) (by (first | lia | omega)) fun _ => y5 (.inr x5)
theorem outer_loop {m : Nat} {Rr : V → St → Prop} {N : Loc → St → Prop} {o0 o1 o3 o4 o5 o8 o10 o11 o12 o13 : Option V} : ∀ (is : List Nat) {H : St} {rows : List Row} {L R : List Int} {o2 o9 : Option V}, LS H b u d n e L0 R0 rows L R → L.length + 6 * is.length ≤ 3900 → R.length + 6 * is.length ≤ 3900 → rows.length + 3 * is.length ≤ 29000 →
    (∀ H' rows' L' R' o2' o9', LS H' b u d n e L0 R0 rows' L' R' → L'.length ≤ L.length + 6 * is.length → R'.length ≤ R.length + 6 * is.length → rows'.length ≤ rows.length + 3 * is.length → cntB rows' = cntB rows + is.length → (is ≠ [] ∨ (atB rows = true ∧ abv rows rows.length ≠ 0) → atB rows' = true ∧ abv rows' rows'.length ≠ 0) →
      N [o0, o1, o2', o3, o4, o5, some (.ref .deck d), some (.ref .buf b), o8, o9', o10, o11, o12, o13] H') →
    forRec (forB (callAt defs (m + 8)) Rr [2] outB) (is.map fun (j : Nat) => V.int j) [o0, o1, o2, o3, o4, o5, some (.ref .deck d), some (.ref .buf b), o8, o9, o10, o11, o12, o13] H N := by
  intro x_
  induction x_ with
  | nil =>
    intro H rows L R o2 o9 S h1 h2 h3 h
    exact h H rows L R o2 o9 S (by simp) (by simp) (by simp) (by simp) (by simp)
  | cons i is ih =>
    intro H rows L R o2 o9 S h1 h2 h3 h
    refine @bc _ fun k_ => ?_
    obtain ⟨⟨BB, D, Tw, h7⟩, un, ue⟩ := S
    apply k_; clear k_
    simp only [List.length_cons] at h1 h2 h3 h
    refine for_step ?_
    (walk_at "uus")
    refine lawDraw_s D (by (first | lia | omega)) fun H1 v a1 a2 D1 k1 => ?_
    have BB1 : BEx H1 b u (L ++ 7 :: R) rows := by
      refine @bc _ fun k_ => ?_
      obtain ⟨t, r, pt, tk, ct, B⟩ := BB
      apply k_; clear k_
      exact ⟨t, r, pt, tk, ct, B.keep k1 (by decide) (by decide) (by decide) (by decide) (by decide)⟩
    (walk_at "uus")
    refine p_range (by (first | lia | omega)) ?_
    refine iter_rng (by (first | lia | omega)) ?_
    rw [rng_up (by (first | lia | omega))]
    have jl : (List.range (1 + v).toNat).length ≤ 2 := by simp; (first | lia | omega)
    have jn : List.range (1 + v).toNat ≠ [] := by intro q; have := congrArg List.length q; simp at this; (first | lia | omega)
    refine inner_loop (List.range (1 + v).toNat) ⟨⟨BB1, D1, Tw, h7⟩, (k1 .und (by decide)).trans un, (k1 .eqd (by decide)).trans ue⟩ (by (first | lia | omega)) (by (first | lia | omega)) (by (first | lia | omega)) fun H2 rows2 L2 R2 o9' S2 y1 y2 y3 y4 y5 => ?_
    have at2 := y5 (.inl jn)
    refine @bc _ fun k_ => ?_
    obtain ⟨⟨⟨t2, r2, pt2, tk2, ct2, B2⟩, D2, Tw2, h72⟩, un2, ue2⟩ := S2
    apply k_; clear k_
    have hb2 := B2.buf
    have hu2 := B2.hist.1
    have hr2 := B2.hist.2.1
    (walk_at "uus")
    refine ulBoundary_s hu2 hr2 (by (first | lia | omega)) fun H3 hr3 k3 => ?_
    rw [at2, if_neg (by decide)] at hr3
    have B3 := B2.rows (r' := r2) k3 (by decide) (by decide) (by decide) ((k3 .ul (by decide)).trans hu2) hr3
    have av : abv (rows2 ++ [Row.bnd]) (rows2 ++ [Row.bnd]).length ≠ 0 := by
      rw [abv_snoc, if_pos (show isB Row.bnd = true from rfl)]
      rcases List.eq_nil_or_concat rows2 with rfl | ⟨l, x, rfl⟩
      · cases at2
      · simp only [List.concat_eq_append] at at2 ⊢
        have : isB x = false := by simpa [atB] using at2
        rw [abv_snoc, if_neg (by rw [this]; decide)]
        (first | lia | omega)
    have cb : cntB (rows2 ++ [Row.bnd]) = cntB rows2 + 1 := by rw [cntB_app]; rfl
    have ll : (rows2 ++ [Row.bnd]).length = rows2.length + 1 := by simp
    (walk_at "uus")
    refine ih ⟨⟨⟨_, _, _, _, _, B3⟩, D2.keep k3 (by decide) (by decide), .bnd Tw2, h72⟩, (k3 .und (by decide)).trans un2, (k3 .eqd (by decide)).trans ue2⟩ (by (first | lia | omega)) (by (first | lia | omega)) (by (first | lia | omega)) fun H4 rows4 L4 R4 o2' o9'' S4 z1 z2 z3 z4 z5 => ?_
    exact h H4 rows4 L4 R4 o2' o9'' S4 (by (first | lia | omega)) (by (first | lia | omega)) (by (first | lia | omega)) (by (first | lia | omega)) fun _ => z5 (.inr ⟨by simp [atB, isB], av⟩)
end
set_option backward.match.sparseCases false
section
variable {H : St} {Q : V → St → Prop} {X : St → Prop} {b u d n e a : Nat} {L0 R0 L R T0 Td : List Int} {base rows : List Row}
theorem eqVs_iv (k : Nat) : ∀ l : List Int, eqVs (eqV (k + 1)) true (iv l) (iv l) = some true
  | [] => rfl
  | x :: l => by
    have ih := eqVs_iv k l
    have h1 : eqV (k + 1) (V.int x) (V.int x) = some true := by show some (decide (x = x)) = _; simp
    have e : iv (x :: l) = .int x :: iv l := rfl
    rw [e]
    simp only [eqVs, h1, Bool.and_self, ih]
theorem eqV_lst (k : Nat) (l : List Int) : eqV (k + 2) (.lst (iv l)) (.lst (iv l)) = some true := by
  show (if (iv l).length = (iv l).length then eqVs (eqV (k + 1)) true (iv l) (iv l) else some false) = some true
  rw [if_pos rfl, eqVs_iv]
theorem eqVs_pair (x y : List Int) : eqVs (eqV 7) true [.lst (iv x), .lst (iv y)] [.lst (iv x), .lst (iv y)] = some true := by
  have h1 : eqV 7 (.lst (iv x)) (.lst (iv x)) = some true := eqV_lst 5 x
  have h2 : eqV 7 (.lst (iv y)) (.lst (iv y)) = some true := eqV_lst 5 y
  simp only [eqVs, h1, h2, Bool.and_self]
theorem ne_pair {x y : List Int} {P : V → Prop} (q : P (.bool false)) : optP (ev2 H .ne (.tup [.lst (iv x), .lst (iv y)]) (.tup [.lst (iv x), .lst (iv y)])) P := by
  refine optP_of (x := .bool false) ?_ q
  show (eqVs (eqV 7) true [.lst (iv x), .lst (iv y)] [.lst (iv x), .lst (iv y)]).map (fun b => V.bool !b) = _
  rw [eqVs_pair]; rfl
theorem ne_parts {T : List Int} {P : V → Prop} (q : P (.bool false)) : optP (ev2 H .ne (partsV T) (partsV T)) P := ne_pair q
theorem eq_pairL {x y : List Int} {P : V → Prop} (q : P (.bool true)) : optP (ev2 H .eq (.lst [.lst (iv x), .lst (iv y)]) (.lst [.lst (iv x), .lst (iv y)])) P := by
  refine optP_of (x := .bool true) ?_ q
  show (eqVs (eqV 7) true [.lst (iv x), .lst (iv y)] [.lst (iv x), .lst (iv y)]).map V.bool = _
  rw [eqVs_pair]; rfl
theorem met_at (T0 : List Int) : ∀ r : Gs, (partsV T0 :: metOf r)[r.length]? = some (partsV (textOf T0 r))
  | [] => rfl
  | (G, T) :: r => by
    simp only [metOf, List.length_cons, List.getElem?_cons_succ]
    rw [List.getElem?_append_right (by rw [met_len]; exact Nat.le_refl _), met_len]
    simp [textOf]
noncomputable def downs : Nat → List V
  | 0 => []
  | k + 1 => .int k :: downs k
theorem rng_down : ∀ k : Nat, rngItems ((k : Int) - 1) (-1) (-1) = downs k := by
  have key : ∀ k : Nat, (List.range k).map (fun (j : Nat) => V.int ((k : Int) - 1 + (-1) * j)) = downs k := by
    intro k
    induction k with
    | zero => rfl
    | succ k ih =>
      rw [List.range_succ_eq_map, List.map_cons, List.map_map, downs, ← ih]
      congr 1
      · congr 1; (first | lia | omega)
      · apply List.map_congr_left
        intro j _
        show V.int (((k + 1 : Nat) : Int) - 1 + -1 * ((j + 1 : Nat) : Int)) = V.int ((k : Int) - 1 + -1 * (j : Int))
        congr 1; (first | lia | omega)
  intro k
  rw [← key k]
  delta rngItems rngLen
  rw [if_neg (by decide)]
  have : (if (-1 : Int) < (k : Int) - 1 then (((k : Int) - 1 - -1 - 1) / (- -1) + 1).toNat else 0) = k := by
    split
    · have : (- -1 : Int) = 1 := rfl
      rw [this, Int.ediv_one]; (first | lia | omega)
    · (first | lia | omega)
  rw [this]
theorem p_range3 {x y z : Int} {P : V → Prop} (h : z ≠ 0 ∧ -2147483648 < x ∧ x < 2147483648 ∧ -2147483648 < y ∧ y < 2147483648 ∧ -2147483648 < z ∧ z < 2147483648) (q : P (.rng x y z)) : optP (ev3 H .range (.int x) (.int y) (.int z)) P :=
  optP_of (x := .rng x y z) (by simp only [ev3, intV_int, Option.bind_some]; rw [if_pos h]) q
theorem iter_rng3 {x y z : Int} {P : List V → Prop} (h : z ≠ 0 ∧ -2147483648 < x ∧ x < 2147483648 ∧ -2147483648 < y ∧ y < 2147483648 ∧ -2147483648 < z ∧ z < 2147483648) (q : P (rngItems x y z)) : optP (iterOf (.rng x y z)) P :=
  optP_of (x := rngItems x y z) (by simp only [iterOf]; rw [if_pos h]) q
noncomputable abbrev redB : SL := (.cons (.ex (.call .undoRedo (.cons (.v 8) (.cons (.v 7) (.cons (.int 1) .nil)))))
    (.cons (.ite (.op2 .ne (.call .lawParts (.cons (.v 7) .nil)) (.op2 .idx (.v 3) (.v 5)))
      (.cons (.ret (.bool false))
    .nil)
      .nil)
    .nil))
theorem redo_loop {m : Nat} {Rr : V → St → Prop} {N : Loc → St → Prop} {o0 o1 o2 o4 o6 o9 o10 o11 o12 o13 : Option V} (ha : atB base = true) (okT : Ok T0) : ∀ (gs : Gs) (Y : List V) {H : St} {p i c : V} {o5 : Option V}, chain T0 gs → US H b u n e (textOf T0 gs) (rowsOf base gs) p i c (keysOf base gs) → (rowsOf base gs).length ≤ 45000 → gs.length ≤ 900 →
    (∀ H' p' i' c' o5', US H' b u n e T0 base p' i' c' [] → Keep utags H H' → N [o0, o1, o2, some (.lst ((partsV T0 :: metOf gs) ++ Y)), o4, o5', o6, some (.ref .buf b), some (.ref .und n), o9, o10, o11, o12, o13] H') →
    forRec (forB (callAt defs (m + 12)) Rr [5] redB) (downs gs.length) [o0, o1, o2, some (.lst ((partsV T0 :: metOf gs) ++ Y)), o4, o5, o6, some (.ref .buf b), some (.ref .und n), o9, o10, o11, o12, o13] H N := by
  intro x_
  induction x_ with
  | nil =>
    intro Y H p i c o5 hc U hl hg h
    exact h H p i c o5 U Keep.refl
  | cons x_ r ih =>
    obtain ⟨G, T⟩ := x_
    intro Y H p i c o5 hc U hl hg h
    refine @bc _ fun k_ => ?_
    obtain ⟨hh, nG, hG, hc⟩ := hc
    apply k_; clear k_
    simp only [List.length_cons] at hg
    have gl : (rowsOf base ((G, T) :: r)).length = (rowsOf base r).length + (G.length + 1) := by simp [rowsOf]
    refine for_step ?_
    (walk_at "uus")
    refine undoRedo_s U (rowsOf_atB ha r) hG nG hh (by (first | lia | omega)) (by rw [keys_len]; simp; (first | lia | omega)) ?_ ?_ fun H1 v U1 k1 => ?_
    · simp only [keysOf]; rw [dGet_last (keys_ltG base r G)]; rfl
    · intro k v hv
      simp only [keysOf] at hv
      rw [dDel_last (keys_ltG base r G)] at hv
      exact keys_val base r _ (dGet_mem hv)
    simp only [keysOf] at U1
    rw [dDel_last (keys_ltG base r G)] at U1
    refine @bc _ fun k_ => ?_
    obtain ⟨t1, r1, pt1, tk1, ct1, B1⟩ := U1.ex
    apply k_; clear k_
    have ok1 := hh.ok1
    (walk_at "uus")
    refine lawParts_s B1.buf B1.gap ok1.1 (by have := ok1.2; (first | lia | omega)) ?_
    have gm : getAt ((partsV T0 :: metOf ((G, T) :: r)) ++ Y) (r.length : Nat) = some (partsV (textOf T0 r)) := by
      rw [getAt_nat rfl]
      have e : (partsV T0 :: metOf ((G, T) :: r)) ++ Y = (partsV T0 :: metOf r) ++ ([partsV T] ++ Y) := by simp [metOf]
      rw [e, List.getElem?_append_left (by simp [met_len]), met_at]
    (walk_at "uus")
    refine o_idxL gm ?_
    refine ne_parts ?_
    have e : (partsV T0 :: metOf ((G, T) :: r)) ++ Y = (partsV T0 :: metOf r) ++ ([partsV T] ++ Y) := by simp [metOf]
    rw [e] at h ⊢
    (walk_at "uus")
    exact ih ([partsV T] ++ Y) hc U1 (by (first | lia | omega)) (by (first | lia | omega)) fun H2 p' i' c' o5' U2 k2 => h H2 p' i' c' o5' U2 (k1.trans k2)
end
set_option backward.match.sparseCases false
section
variable {H : St}
noncomputable def Yes (y : V) (_ : St) : Prop := y = .bool true
theorem first_list (c : Int) (hc : 8 ≤ c) {v : Int} (h0 : 0 ≤ v) (h1 : v < 4) : ∃ l : List Int, ((List.range (1 + v).toNat).map fun (j : Nat) => c + (j : Int)) = l ∧ l.length ≤ 4 ∧ 7 ∉ l := by
  refine ⟨_, rfl, by simp; (first | lia | omega), ?_⟩
  intro q
  simp only [List.mem_map] at q
  obtain ⟨j, _, e⟩ := q
  (first | lia | omega)
theorem met_last (T0 : List Int) (gs : Gs) : getAt (partsV T0 :: metOf gs) (-1) = some (partsV (textOf T0 gs)) := by
  have h := met_at T0 gs
  unfold getAt
  rw [if_neg (by decide), if_pos (by simp; (first | lia | omega))]
  have e : (-1 + ((partsV T0 :: metOf gs).length : Int)).toNat = gs.length := by simp [met_len]; (first | lia | omega)
  rw [e, h]
set_option maxHeartbeats 4000000 in
theorem law_s (l : List Int) (m : Nat) : wpSL (callAt defs (m + 16)) (fun _ => False) Yes (defs .law).body (some (.lst (iv l)) :: List.replicate ((defs .law).names.length - 1) .none) (fun _ => .none) fun _ _ => False := by
  show wpSL _ _ _ ir_law [some (.lst (iv l)), .none, .none, .none, .none, .none, .none, .none, .none, .none, .none, .none, .none, .none] _ _
  unfold ir_law
  generalize (fun _ => .none : St) = H0
  (walk_at "uus")
  refine lawDeck_s fun H1 d D1 k1 => ?_
  (walk_at "uus")
  intro b
  refine bufInit_s (upd_same _ _ _) fun H2 t B2 k2 => ⟨rfl, ?_⟩
  have D2 := (D1.keep (ts := [.buf]) (Keep.refl.upd (by decide)) (by decide) (by decide) : DeckOk (upd H1 .buf (some (b, .inst .buffer []))) d).keep k2 (by decide) (by decide)
  (walk_at "uus")
  intro n
  refine undInit_s (upd_same _ _ _) fun H3 e un3 ue3 k3 => ⟨rfl, ?_⟩
  have k23 : Keep [.und, .eqd] H2 H3 := (Keep.refl.upd (by decide)).trans k3
  have D3 := D2.keep k23 (by decide) (by decide)
  have B3 := B2.keep k23 (by decide) (by decide) (by decide) (by decide) (by decide)
  (walk_at "uus")
  refine lawDraw_s D3 (by (first | lia | omega)) fun H4 v4 a1 a2 D4 k4 => ?_
  (walk_at "uus")
  refine p_range (by (first | lia | omega)) ?_
  refine iter_rng (by (first | lia | omega)) ?_
  rw [rng_up (by (first | lia | omega))]
  refine optP_of (comp_add 100 _) ?_
  obtain ⟨L0, e1, hL0, h7⟩ := first_list 100 (by (first | lia | omega)) a1 a2
  rw [e1]
  (walk_at "uus")
  refine lawDraw_s D4 (by (first | lia | omega)) fun H5 v5 a3 a4 D5 k5 => ?_
  (walk_at "uus")
  refine p_range (by (first | lia | omega)) ?_
  refine iter_rng (by (first | lia | omega)) ?_
  rw [rng_up (by (first | lia | omega))]
  refine optP_of (comp_add 110 _) ?_
  obtain ⟨R0, e2, hR0, h7R⟩ := first_list 110 (by (first | lia | omega)) a3 a4
  rw [e2]
  (walk_at "uus")
  have eT : iv L0 ++ [V.int 7] ++ iv R0 = iv (L0 ++ 7 :: R0) := by simp [iv]
  rw [eT]
  have B5 := B3.keep (k4.trans k5) (by decide) (by decide) (by decide) (by decide) (by decide)
  have un5 := ((k4.trans k5) .und (by decide)).trans un3
  have ue5 := ((k4.trans k5) .eqd (by decide)).trans ue3
  refine insertAt_s B5 (by simp [hsLen]) (p := 0) (by simp) (by simp) (by simp) (by simp; (first | lia | omega)) fun H6 pt6 ct6 B6 k6 => ?_
  have D6 := D5.keep k6 (by decide) (by decide)
  have un6 := (k6 .und (by decide)).trans un5
  have ue6 := (k6 .eqd (by decide)).trans ue5
  have ei : insT [] 0 (L0 ++ 7 :: R0) = L0 ++ 7 :: R0 := by simp [insT]
  rw [ei] at B6
  (walk_at "uus")
  intro a7
  refine recInit_s (upd_same _ _ _) fun H7 u r hu7 hr7 ht7 k7 => ⟨rfl, ?_⟩
  refine optP_of (x := [.ref .ul u]) (by simp [fldsV, ht7]) ?_
  have k67 : Keep [.ul, .rows, .tmp] H6 (upd H7 .tmp .none) := ((Keep.refl.upd (by decide)).trans k7).upd (by decide)
  have hb7 := (k67 .buf (by decide)).trans B6.buf
  (walk_at "uus")
  have k8 : Keep [.ul, .rows, .tmp, .buf] H6 (upd (upd H7 .tmp .none) .buf (some (b, bufV t pt6 ((L0 ++ 7 :: R0).length + 1) (1 + 1) ct6 (undoV (some (u, r, ([] : List Row))))))) := (k67.mono (by decide)).upd (by decide)
  have B8 : BOk (upd (upd H7 .tmp .none) .buf (some (b, bufV t pt6 ((L0 ++ 7 :: R0).length + 1) (1 + 1) ct6 (undoV (some (u, r, ([] : List Row))))))) b t pt6 (1 + 1) ct6 (L0 ++ 7 :: R0) (some (u, r, [])) := by
    refine ⟨upd_same _ _ _, B6.gap.keep k8 (by decide) (by decide), ⟨?_, ?_, by decide⟩, by decide⟩
    · rw [upd_ne _ _ (by decide), upd_ne _ _ (by decide)]; exact hu7
    · rw [upd_ne _ _ (by decide), upd_ne _ _ (by decide)]; exact hr7
  have S8 : LS (upd (upd H7 .tmp .none) .buf (some (b, bufV t pt6 ((L0 ++ 7 :: R0).length + 1) (1 + 1) ct6 (undoV (some (u, r, ([] : List Row))))))) b u d n e L0 R0 [] L0 R0 :=
    ⟨⟨⟨_, _, _, _, _, B8⟩, D6.keep k8 (by decide) (by decide), .nil, h7⟩, (k8 .und (by decide)).trans un6, (k8 .eqd (by decide)).trans ue6⟩
  refine lawDraw_s S8.1.2.1 (by (first | lia | omega)) fun H9 v9 a5 a6 D9 k9 => ?_
  have S9 : LS H9 b u d n e L0 R0 [] L0 R0 :=
    ⟨⟨⟨_, _, _, _, _, B8.keep k9 (by decide) (by decide) (by decide) (by decide) (by decide)⟩, D9, .nil, h7⟩, (k9 .und (by decide)).trans S8.2.1, (k9 .eqd (by decide)).trans S8.2.2⟩
  (walk_at "uus")
  refine p_range (by (first | lia | omega)) ?_
  refine iter_rng (by (first | lia | omega)) ?_
  rw [rng_up (by (first | lia | omega))]
  have il : (List.range (3 + v9).toNat).length ≤ 7 := by simp; (first | lia | omega)
  have inn : List.range (3 + v9).toNat ≠ [] := by intro q; have := congrArg List.length q; simp at this; (first | lia | omega)
  refine outer_loop (List.range (3 + v9).toNat) S9 (by (first | lia | omega)) (by (first | lia | omega)) (by simp; (first | lia | omega)) fun H10 rows L R o2 o9 S10 z1 z2 z3 z4 z5 => ?_
  obtain ⟨hat, hav⟩ := z5 (.inl inn)
  have rl : rows.length ≤ 21 := by simp at z3; (first | lia | omega)
  have cl : cntB rows ≤ 7 := by simp [cntB] at z4 ⊢; (first | lia | omega)
  clear z3 z4 z5
  refine @bc _ fun k_ => ?_
  obtain ⟨⟨⟨t10, r10, pt10, tk10, ct10, B10⟩, D10, Tw, h7L⟩, un10, ue10⟩ := S10
  apply k_; clear k_
  have hT : (L ++ 7 :: R).length ≤ 2000 := by simp; (first | lia | omega)
  (walk_at "uus")
  refine lawParts_s B10.buf B10.gap (by simp) (by (first | lia | omega)) ?_
  rw [partsV_eq h7L]
  (walk_at "uus")
  refine lawDraw_s D10 (by (first | lia | omega)) fun H11 v11 a7 a8 D11 k11 => ?_
  have U11 : US H11 b u n e (L ++ 7 :: R) rows .none .none .none [] := ⟨⟨_, _, _, _, _, B10.keep k11 (by decide) (by decide) (by decide) (by decide) (by decide)⟩, (k11 .und (by decide)).trans un10, (k11 .eqd (by decide)).trans ue10⟩
  (walk_at "uus")
  generalize decide (v11 = 0) = isL
  refine lawUndone_s (isL := isL) U11 hat hav Tw (by (first | lia | omega)) (by (first | lia | omega)) (by (first | lia | omega)) (by (first | lia | omega)) h7L rfl fun H12 a12 gs Dn k12 => ?_
  refine @bc _ fun k_ => ?_
  obtain ⟨hch, htx, ⟨p12, i12, c12, U12⟩, hm12, gl, rl12⟩ := Dn
  apply k_; clear k_
  have ml := met_len gs
  have okT : Ok (L ++ 7 :: R) := ⟨by simp, by (first | lia | omega)⟩
  have eM : [V.tup [.lst (iv L), .lst (iv R)]] ++ metOf gs = (partsV (L ++ 7 :: R) :: metOf gs) ++ [] := by rw [partsV_eq h7L]; simp
  (walk_at "uus")
  rw [eM]
  have lR : R.length ≤ 2000 := by simp at hT; (first | lia | omega)
  have lL : L.length ≤ 2000 := by simp at hT; (first | lia | omega)
  cases isL with
  | true =>
    have tx : textOf (L ++ 7 :: R) gs = L0 ++ 7 :: R := htx
    have gl2 : getAt ((partsV (L ++ 7 :: R) :: metOf gs) ++ []) (-1) = some (.tup [.lst (iv L0), .lst (iv R)]) := by
      rw [List.append_nil, met_last, tx, partsV_eq h7]
    have nA : (L0).length ≤ 2000 := by (first | lia | omega)
    have nB : (R).length ≤ 2000 := by (first | lia | omega)
    (walk_at "uus")
    refine o_idxL gl2 ?_
    (walk_at "uus")
    refine o_idxL gl2 ?_
    (walk_at "uus")
    refine ne_pair ?_
    (walk_at "uus")
    refine ⟨trivial, ?_⟩
    (walk_at "uus")
    have lM : ((((partsV (L ++ 7 :: R) :: metOf gs) ++ []).length : Nat) : Int) - 2 = (gs.length : Int) - 1 := by simp [ml]; (first | lia | omega)
    rw [lM]
    refine p_range3 (by (first | lia | omega)) ?_
    refine iter_rng3 (by (first | lia | omega)) ?_
    rw [rng_down]
    refine redo_loop hat okT gs [] hch U12 rl12 (by (first | lia | omega)) fun H13 p13 i13 c13 o5 U13 k13 => ?_
    (walk_at "uus")
    refine lawUndone_s (isL := false) U13 hat hav Tw (by (first | lia | omega)) (by (first | lia | omega)) (by (first | lia | omega)) (by (first | lia | omega)) h7L rfl fun H14 a14 gs2 Dn2 k14 => ?_
    refine @bc _ fun k_ => ?_
    obtain ⟨_, htx2, ⟨p14, i14, c14, U14⟩, _, _, _⟩ := Dn2
    apply k_; clear k_
    have tx2 : textOf (L ++ 7 :: R) gs2 = L ++ 7 :: R0 := htx2
    rw [tx2] at U14
    refine @bc _ fun k_ => ?_
    obtain ⟨t14, r14, pt14, tk14, ct14, B14⟩ := U14.ex
    apply k_; clear k_
    (walk_at "uus")
    refine lawParts_s B14.buf B14.gap (by simp) (by simp; (first | lia | omega)) ?_
    rw [partsV_eq (L := L) (R := R0) h7L]
    (walk_at "uus")
    refine eq_pairL ?_
    rfl
  | false =>
    have tx : textOf (L ++ 7 :: R) gs = L ++ 7 :: R0 := htx
    have gl2 : getAt ((partsV (L ++ 7 :: R) :: metOf gs) ++ []) (-1) = some (.tup [.lst (iv L), .lst (iv R0)]) := by
      rw [List.append_nil, met_last, tx, partsV_eq h7L]
    have nA : (L).length ≤ 2000 := by (first | lia | omega)
    have nB : (R0).length ≤ 2000 := by (first | lia | omega)
    (walk_at "uus")
    refine o_idxL gl2 ?_
    (walk_at "uus")
    refine o_idxL gl2 ?_
    (walk_at "uus")
    refine ne_pair ?_
    (walk_at "uus")
    refine ⟨trivial, ?_⟩
    (walk_at "uus")
    have lM : ((((partsV (L ++ 7 :: R) :: metOf gs) ++ []).length : Nat) : Int) - 2 = (gs.length : Int) - 1 := by simp [ml]; (first | lia | omega)
    rw [lM]
    refine p_range3 (by (first | lia | omega)) ?_
    refine iter_rng3 (by (first | lia | omega)) ?_
    rw [rng_down]
    refine redo_loop hat okT gs [] hch U12 rl12 (by (first | lia | omega)) fun H13 p13 i13 c13 o5 U13 k13 => ?_
    (walk_at "uus")
    refine lawUndone_s (isL := true) U13 hat hav Tw (by (first | lia | omega)) (by (first | lia | omega)) (by (first | lia | omega)) (by (first | lia | omega)) h7L rfl fun H14 a14 gs2 Dn2 k14 => ?_
    refine @bc _ fun k_ => ?_
    obtain ⟨_, htx2, ⟨p14, i14, c14, U14⟩, _, _, _⟩ := Dn2
    apply k_; clear k_
    have tx2 : textOf (L ++ 7 :: R) gs2 = L0 ++ 7 :: R := htx2
    rw [tx2] at U14
    refine @bc _ fun k_ => ?_
    obtain ⟨t14, r14, pt14, tk14, ct14, B14⟩ := U14.ex
    apply k_; clear k_
    (walk_at "uus")
    refine lawParts_s B14.buf B14.gap (by simp) (by simp; (first | lia | omega)) ?_
    rw [partsV_eq (L := L0) (R := R) h7]
    (walk_at "uus")
    refine eq_pairL ?_
    rfl
end
end Mine
set_option backward.match.sparseCases true
namespace Mine
open PySem PySem.W PyProof.Rows PySem.SeqAt PySem.Calls
theorem wellAll_nil {P : Params} {h : Heap} {vs : List Value} (w : WellAll P h vs []) : vs = [] := by cases w; rfl
theorem well_int {P : Params} {h : Heap} {v : Value} {n : Int} (w : Well P h v (.int n)) : ∃ t, v = .int n t := by cases w; exact ⟨_, rfl⟩
inductive WellL (P : Params) (h : Heap) (v : Value) (xs : List WData) : Prop | mk (a : Addr) (vs : List Value) (e : v = .ref a) (hg : h.get? a = some { cls := .type "list", data := .seq vs.toArray }) (ws : WellAll P h vs xs)
theorem well_list {P : Params} {h : Heap} {v : Value} {xs : List WData} (w : Well P h v (.list xs)) : WellL P h v xs := by
  cases w with
  | list hg ws => exact ⟨_, _, rfl, hg, ws⟩
theorem wellAll_ints {P : Params} {h : Heap} {W : Wd} : ∀ {ns : List Int} {vs : List Value}, WellAll P h vs (ofPys (ns.map PyData.int)) → Reps cA h W (iv ns) vs ∧ vs.length = ns.length := by
  intro ns
  induction ns with
  | nil =>
    intro vs w
    rw [wellAll_nil w]
    exact ⟨trivial, rfl⟩
  | cons n ns ih =>
    intro vs w
    obtain ⟨v, vs', e, w1, w2⟩ := wellAll_cons_inv w
    obtain ⟨r, q⟩ := ih w2
    rw [e]
    exact ⟨⟨well_int w1, r⟩, congrArg Nat.succ q⟩
theorem rep_script {P : Params} {h : Heap} {a : Addr} {ns : List Int} (w : Well P h (.ref a) (ofPy (PyData.list (ns.map PyData.int)))) (hl : ns.length ≤ 63) : Rep cA h (fun _ => Option.none) (.lst (iv ns)) (.ref a) := by
  obtain ⟨a', vs, e, hg, ws⟩ := well_list w
  obtain ⟨r, q⟩ := wellAll_ints (W := fun _ => Option.none) ws
  exact ⟨a', vs, e, rfl, ⟨_, hg⟩, Nat.le_trans (Nat.le_of_eq q) (Nat.le_trans hl (by decide)), r⟩
section
variable {w : World} {K : Frag} {n : Nat}
theorem law_enter {s₀ : Shared} {h₁ : Heap} {tk : Nat} {A : Around} {Qm : Flow → Shared → Prop} {Em : Value → Shared → Prop} {f : Fn} {fd : FuncData} {body : List Stmt} {nm : Str} {L fa : Addr} {cd : Value} {m : Str → Option Value} {x : V} {v : Value} {p0 : Str} {Q : V → St → Prop} {sc : Scope} {bd : List Stmt}
    (FX : Fix K cA fA xA prog w s₀.heap s₀.gens s₀.os n) (O : ExcOk K s₀.heap xA iA) (FO : FnOk K f (fA f) fd body) (hp : (defs f).params = 1) (hN : (namesN (defs f))[0]? = some p0) (es : fd.scope = sc) (eb : body = bd) (hloc : sc.names.lookup p0 = some .local) (nocell : (sc.names.all fun x => x.2 != .cell) = true)
    (F : Fr s₀.heap L h₁ m) (hm : m p0 = some v) (rv : Rep cA s₀.heap (fun _ => Option.none) x v) (hA : A.handled = .none) (hu : A.units + 3 + 100 * (2 * n + 1) + 200 < cLine) (hd : A.depth + 1 + 4 * (2 * n + 1) + 10 < recursionLimit) (hf : A.frames = some [])
    (h : wpSL (callAt defs n) (fun _ => False) Q (defs f).body (some x :: List.replicate ((defs f).names.length - 1) .none) (fun _ => Option.none) fun _ _ => False)
    (hQ : ∀ y H' v s' W', StOk cA prog w s₀.heap s₀.gens s₀.os s' W' H' → Rep cA s'.heap W' y v → Q y H' → Qm (.ret v) s') :
    wpAny (model prog w) (A.deeper (envOf nm sc L fa cd)) (execs bd (envOf nm sc L fa cd)) Qm Em { s₀ with heap := h₁, toks := tk } := by
  subst es eb
  exact law_entry FX O FO hp hN hloc nocell F hm rv hA hu hd hf h hQ
end
noncomputable def lawHook : Hook := kgHook (fA .law) (dLaw.scope, dLaw.body)
theorem all_parts {p : Fn → Bool} {b c : Bool} {n : Nat} (h1 : (allF.take n).all p = true) (h2 : ((allF.drop n).all p && b && c) = true) : (allF.all p && b && c) = true := by
  rw [← List.take_append_drop n allF, List.all_append, h1]
  exact h2
theorem left_ok : LeftO pw vq loose (fun s => xlAt vq lv s && recOk [] s) (Hook.obs lawHook) (Hook.val lawHook) N0 := by
  intro w
  have a := congrFun rb2 w
  obtain ⟨⟨s₀, y⟩, hr, a⟩ := Option.map_eq_some_iff.mp a
  have b1 := congrFun rb1 w
  have b := congrFun rb w
  have c1 := congrFun rc1 w
  have c3 := congrFun rc3 w
  have d1 := congrFun rd1 w
  have d2 := congrFun rd2 w
  simp only [hr, Option.map_some, Option.some.injEq] at b1 b c1 c3 d1 d2
  rw [runQ_spec hr (congrArg Prod.fst a), Option.map_some]
  have e1 : openSeen vq loose (importedModules pw.main.body) (fun s => xlAt vq lv s && recOk [] s) true y.abs = openGood vq loose := by
    rw [osF_eq]
    unfold openGood
    rw [loose_eq]
    exact Prod.ext (Prod.mk.inj c1).1 (Prod.ext (Prod.mk.inj c1).2 (Prod.ext (Prod.mk.inj c3).1 (Prod.ext (Prod.mk.inj c3).2 (Prod.ext (Prod.mk.inj d2).1 (Prod.ext (Prod.mk.inj d1).1 (Prod.ext (congrArg (fun x => x.2.1) a) (Prod.ext (Prod.mk.inj d2).2 (Prod.mk.inj d1).2)))))))
  have e2 : SaysK (fA .law) (dLaw.scope, dLaw.body) y.abs.heap := ⟨fragT asL y, fragT_in y asL, Prod.ext (all_parts b1 b) (congrArg (fun x => x.2.2.1) a), congrArg (fun x => x.2.2.2.1) a, congrArg (fun x => x.2.2.2.2) a⟩
  have e3 : Hook.obs lawHook y.abs = true := @decide_eq_true _ (Classical.propDecidable _) e2
  rw [e1]
  exact congrArg some (Prod.ext rfl e3)
end Mine
open PySem PySem.W PyProof.Rows
local macro_rules | `(tactic| k_qdec) => `(tactic| first | with_reducible exact Mine.hn1 | with_reducible exact Mine.hn2)
set_option pp.deepTerms false
set_option maxHeartbeats 8000000 in
theorem PySem.Challenge.cw_pq0309_01_holds : PySem.Challenge.rw_pq0309_01.Holds :=
  holds_law Mine.said1 fun said =>
  PySem.W.holds_open (r := PySem.Challenge.rw_pq0309_01.row) (q := Mine.vq) (loose := Mine.loose) (Xt := fun s => xlAt Mine.vq Mine.lv s && recOk [] s) (XP := XL Mine.vq Mine.lv) (Yf := Hook.obs Mine.lawHook) (Ya := Hook.val Mine.lawHook) (YP := Hook.says Mine.lawHook) (d := Mine.dLaw) (kwd := []) (N := Mine.N0)
    Mine.left_ok (Hook.of Mine.lawHook) (Hook.keeps Mine.lawHook) (fun s e => xl_of s (Bool.and_eq_true_iff.mp e).1) XL.keeps Mine.hdef0 Mine.hp0 Mine.hk0 (fun s e => recFacts_of (Bool.and_eq_true_iff.mp e).2) Mine.hwr0 said Mine.okq Mine.bare0 Mine.prom0 (by
  intro w s₀ s₁ mg mb G Y fa o pm cd doc dV kV ho hd hcd hD hmg hg args vals as hpre hlay hrd hwl hlo
  k_behind G ho hd hcd hD hmg hpre hlay hrd hwl hlo cd
  obtain ⟨K, kin, kobs, kes, keb⟩ := Y
  refine Mine.law_enter (K := K) (n := 16) (f := .law) (p0 := Str.ofString "script") (Q := Mine.Yes)
    ⟨Mine.kg_ok kobs kin (Top.g (by assumption)) (Top.b (by assumption)) (Top.nolimit (by assumption)) (Top.builtins (by assumption)), Mine.kg_calls kobs (Mine.kg_ok kobs kin (Top.g (by assumption)) (Top.b (by assumption)) (Top.nolimit (by assumption)) (Top.builtins (by assumption))) _⟩
    (Mine.kg_exc kobs kin) (Mine.kg_fn kobs .law) rfl rfl kes keb ?loc ?noc (by assumption) ?hm (Mine.rep_script (by assumption) ?len) ?hA ?hu ?hdd ?hf (Mine.law_s _ 0) ?hQ
  case loc => exact Mine.hloc0
  case noc => exact Mine.hnoc0
  case hm => rfl
  case len => omega
  case hA => rfl
  case hu => decide
  case hdd => decide
  case hf => rfl
  case hQ =>
    intro y H' v s' W' S r q
    cases q
    have r : v = .bool true := r
    subst r
    refine ⟨.inl ⟨.bool true, .bool true, [], rfl, fun _ => rfl, .bool true, ?post, fun _ => ⟨List.nodup_nil, fun _ h => nomatch h⟩⟩, fun b o e => S.keep b o e, ?os, ?gens⟩
    case post => first | wrow_post | kernel_rfl
    case os => exact S.os
    case gens => exact S.gens.trans hg)
