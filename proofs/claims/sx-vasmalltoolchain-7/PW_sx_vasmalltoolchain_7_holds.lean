import PyProof.Rows.All
import PyProof.Rows.News
import PyProof.Rows.Frame
import PyProof.Rows.RowHeap
import PyProof.OldK
import PyProof.DictStraight
import PyProof.DictKinds
import PyProof.Rows.RowBridgeG
import PyProof.Cells
import PyProof.Rules2
import PyProof.Rules3
import PyProof.PureInt
import PyProof.StrOps
import PyProof.CallRoads
import PyProof.ForRange
import KE.KRevIter
import PyProof.CompFree
import PyProof.DefCall
import KE.KxField
import PyProof.GenQ
import PyProof.CodeObjX
import PyProof.JoinWalk
import PyProof.ZipIter
import PyProof.AttrMissHeap
import KE.KDictOf
import PyProof.TypeOfCall
import PyProof.IsRules
import PyProof.SliceStr2
import PyProof.StrBlockI
import PyProof.WalkInts
import PyProof.ListCopy
import Wide.All
import OpenK.AllK
import Wide.FinOn
import PySem.Challenge.RW_sx_vasmalltoolchain_7
set_option genInjectivity false
set_option genSizeOf false
set_option Elab.async false
set_option linter.unusedVariables false
set_option tactic.hygienic false
namespace Mine
open PySem PyProof.Rows

theorem ar_eq {i n : Nat} (h' : i ≤ n) (h : ¬ i < n) : i = n := Nat.le_antisymm h' (Nat.le_of_not_lt h)
theorem ar_dec {i n : Nat} (h : i < n) : n + 1 - (i + 1) < n + 1 - i := Nat.sub_lt_sub_left (Nat.lt_succ_of_lt h) (Nat.lt_succ_self i)
theorem ar_dec0 {i n : Nat} (h : i < n) : n - (i + 1) < n - i := Nat.sub_lt_sub_left h (Nat.lt_succ_self i)
theorem ar_z {j n : Nat} (hk : n - j = 0) (hj : j ≤ n) : j = n := Nat.le_antisymm hj (Nat.le_of_sub_eq_zero hk)
theorem ar_s {j n k : Nat} (hk : n - j = k + 1) : j < n := Nat.lt_of_sub_pos (hk ▸ Nat.succ_pos k)
theorem ar_n {j n k : Nat} (hk : n - j = k + 1) : n - (j + 1) = k := by rw [Nat.sub_add_eq, hk]; rfl
theorem ar_a {j n : Nat} (h : j < n) : n - j = n - (j + 1) + 1 := (Nat.succ_pred_eq_of_pos (Nat.sub_pos_of_lt h)).symm
theorem ar_b {j n : Nat} (h : j < n) : n - 1 - (n - (j + 1)) = j := by rw [Nat.sub_right_comm, Nat.sub_sub_self h]; rfl
theorem ar_c {j n : Nat} (h : j < n) : n - (n - (j + 1)) = j + 1 := Nat.sub_sub_self h
theorem ar_lt {a n : Nat} (b : Nat) (h : b ≤ n) (k : Nat.ble (a + 1) b = true := by rfl) : a < n := Nat.le_trans (Nat.le_of_ble_eq_true k) h
theorem ar_le {a n : Nat} (b : Nat) (h : a ≤ b) (k : Nat.ble b n = true := by rfl) : a ≤ n := Nat.le_trans h (Nat.le_of_ble_eq_true k)

noncomputable def lstObj (vs : List Value) (n : Nat) : Obj := { cls := .type "list", data := .seq vs.toArray n }
noncomputable def tupObj (vs : List Value) (n : Nat) : Obj := { cls := .type "tuple", data := .seq vs.toArray n }

/-- an object that is a dict of ints to ints -/
inductive IVals : List (Int × Value) → List (Int × Int) → Prop
  | nil : IVals [] []
  | cons {k i : Int} {t : Tok} {vs kvs} : IVals vs kvs → IVals ((k, .int i t) :: vs) ((k, i) :: kvs)
noncomputable def IntDict (o : Obj) (kvs : List (Int × Int)) : Prop := ∃ (p : Program) (w : World) (vs : List (Int × Value)), PySem.Obj.IsDictOf (intKind p w) o vs ∧ IVals vs kvs
noncomputable def dictD (kvs : List (Int × Int)) : PyData := .dict (kvs.map fun q => (.int q.1, .int q.2))

theorem dictD_inj : ∀ {a b : List (Int × Int)}, dictD a = dictD b → a = b := by
  intro a
  induction a with
  | nil => intro b h; cases b with
    | nil => rfl
    | cons => unfold dictD at h; simp at h
  | cons x a ih => intro b h; cases b with
    | nil => unfold dictD at h; simp at h
    | cons y b =>
      unfold dictD at h ih
      have h := PyData.dict.inj h
      rw [List.map_cons, List.map_cons] at h
      obtain ⟨h1, h2⟩ := List.cons.inj h
      obtain ⟨x1, x2⟩ := x; obtain ⟨y1, y2⟩ := y
      have h3 := PyData.int.inj (Prod.mk.inj h1).1
      have h4 := PyData.int.inj (Prod.mk.inj h1).2
      have h5 := ih (b := b) (by rw [h2])
      simp at h3 h4
      rw [h3, h4, h5]

/- v stands for d, by objects of h off X -/
mutual
inductive Rd (X : List Addr) (h : Heap) : Value → PyData → Prop
  | none : Rd X h .none .none
  | bool (b : Bool) : Rd X h (.bool b) (.bool b)
  | int (i : Int) (t : Tok) : Rd X h (.int i t) (.int i)
  | str (x : Str) (t : Tok) : Rd X h (.str x t) (.str x)
  | list {a : Addr} {vs : List Value} {n : Nat} {ds : List PyData} : a ∉ X → h.get? a = some (lstObj vs n) → RdAll X h vs ds → Rd X h (.ref a) (.list ds)
  | tuple {a : Addr} {vs : List Value} {n : Nat} {ds : List PyData} : a ∉ X → h.get? a = some (tupObj vs n) → RdAll X h vs ds → Rd X h (.ref a) (.tuple ds)
  | dict {a : Addr} {o : Obj} {kvs : List (Int × Int)} : (a == sysModules) = false → a ∉ X → h.get? a = some o → IntDict o kvs → Rd X h (.ref a) (dictD kvs)
inductive RdAll (X : List Addr) (h : Heap) : List Value → List PyData → Prop
  | nil : RdAll X h [] []
  | cons {v : Value} {vs : List Value} {d : PyData} {ds : List PyData} : Rd X h v d → RdAll X h vs ds → RdAll X h (v :: vs) (d :: ds)
end

theorem Rd.mono {X X' : List Addr} {h h' : Heap} (k : ∀ b o, b ∉ X → h.get? b = some o → b ∉ X' ∧ h'.get? b = some o) {v : Value} {d : PyData} (r : Rd X h v d) : Rd X' h' v d :=
  Rd.rec (motive_1 := fun v d _ => Rd X' h' v d) (motive_2 := fun vs ds _ => RdAll X' h' vs ds) .none .bool .int .str (fun hx e _ ih => .list (k _ _ hx e).1 (k _ _ hx e).2 ih) (fun hx e _ ih => .tuple (k _ _ hx e).1 (k _ _ hx e).2 ih) (fun hm hx e r => .dict hm (k _ _ hx e).1 (k _ _ hx e).2 r) .nil (fun _ _ a b => .cons a b) r
theorem RdAll.mono {X X' : List Addr} {h h' : Heap} (k : ∀ b o, b ∉ X → h.get? b = some o → b ∉ X' ∧ h'.get? b = some o) {vs : List Value} {ds : List PyData} (r : RdAll X h vs ds) : RdAll X' h' vs ds :=
  RdAll.rec (motive_1 := fun v d _ => Rd X' h' v d) (motive_2 := fun vs ds _ => RdAll X' h' vs ds) .none .bool .int .str (fun hx e _ ih => .list (k _ _ hx e).1 (k _ _ hx e).2 ih) (fun hx e _ ih => .tuple (k _ _ hx e).1 (k _ _ hx e).2 ih) (fun hm hx e r => .dict hm (k _ _ hx e).1 (k _ _ hx e).2 r) .nil (fun _ _ a b => .cons a b) r
section
variable {X X' : List Addr} {h h' : Heap} {v : Value} {vs : List Value} {d : PyData} {ds : List PyData}
theorem RdAll.cons_inv (y : RdAll X h (v :: vs) (d :: ds)) : Rd X h v d ∧ RdAll X h vs ds := by cases y with | cons a b => exact ⟨a, b⟩
theorem RdAll.length (y : RdAll X h vs ds) : vs.length = ds.length := by
  induction vs generalizing ds with
  | nil => cases y; rfl
  | cons v vs ih =>
    cases y with
    | cons _ b => rw [List.length_cons, List.length_cons, ih b]
theorem RdAll.append {ws es} (x : RdAll X h vs ds) (y : RdAll X h ws es) : RdAll X h (vs ++ ws) (ds ++ es) := by
  induction vs generalizing ds with
  | nil => cases x; exact y
  | cons v vs ih =>
    cases x with
    | cons a b => exact .cons a (ih b)
theorem RdAll.get (y : RdAll X h vs ds) {k : Nat} {d : PyData} (hk : ds[k]? = some d) : ∃ v, vs[k]? = some v ∧ Rd X h v d := by
  induction vs generalizing ds k with
  | nil => cases y; simp at hk
  | cons v vs ih =>
    cases y with
    | cons a b =>
      cases k with
      | zero => simp at hk; subst hk; exact ⟨v, rfl, a⟩
      | succ k => exact ih b (by simpa using hk)
theorem RdAll.take (y : RdAll X h vs ds) (k : Nat) : RdAll X h (vs.take k) (ds.take k) := by
  induction vs generalizing ds k with
  | nil => cases y; simpa using RdAll.nil
  | cons v vs ih =>
    cases y with
    | cons a b =>
      cases k with
      | zero => exact .nil
      | succ k => exact .cons a (ih b k)
theorem RdAll.drop (y : RdAll X h vs ds) (k : Nat) : RdAll X h (vs.drop k) (ds.drop k) := by
  induction vs generalizing ds k with
  | nil => cases y; simpa using RdAll.nil
  | cons v vs ih =>
    cases y with
    | cons a b =>
      cases k with
      | zero => exact .cons a b
      | succ k => exact ih b k
theorem RdAll.rep (y : RdAll X h vs ds) : ∀ k : Nat, RdAll X h (List.replicate k vs).flatten (List.replicate k ds).flatten
  | 0 => .nil
  | k + 1 => by rw [List.replicate_succ, List.flatten_cons, List.replicate_succ, List.flatten_cons]; exact y.append (y.rep k)
theorem Rd.int_inv {i : Int} (x : Rd X h v (.int i)) : ∃ t, v = .int i t := by cases x; exact ⟨_, rfl⟩
theorem Rd.str_inv {i : Str} (x : Rd X h v (.str i)) : ∃ t, v = .str i t := by cases x; exact ⟨_, rfl⟩
theorem Rd.bool_inv {b : Bool} (x : Rd X h v (.bool b)) : v = .bool b := by cases x; rfl
theorem Rd.none_inv (x : Rd X h v .none) : v = .none := by cases x; rfl
theorem Rd.list_inv (x : Rd X h v (.list ds)) : ∃ a vs n, v = .ref a ∧ a ∉ X ∧ h.get? a = some (lstObj vs n) ∧ RdAll X h vs ds := by
  cases x with
  | list e c rr => exact ⟨_, _, _, rfl, e, c, rr⟩
theorem Rd.tuple_inv (x : Rd X h v (.tuple ds)) : ∃ a vs n, v = .ref a ∧ a ∉ X ∧ h.get? a = some (tupObj vs n) ∧ RdAll X h vs ds := by
  cases x with
  | tuple e c rr => exact ⟨_, _, _, rfl, e, c, rr⟩
theorem Rd.dict_inv {kvs : List (Int × Int)} (x : Rd X h v (dictD kvs)) : ∃ a o, v = .ref a ∧ (a == sysModules) = false ∧ a ∉ X ∧ h.get? a = some o ∧ IntDict o kvs := by
  unfold dictD at x
  generalize hd : PyData.dict (kvs.map fun q => (PyData.int q.1, PyData.int q.2)) = d at x
  cases x with
  | @dict a o kvs' em e c rr =>
    have : kvs = kvs' := dictD_inj hd
    subst this
    exact ⟨_, _, rfl, em, e, c, rr⟩
  | none => cases hd
  | bool => cases hd
  | int => cases hd
  | str => cases hd
  | list => cases hd
  | tuple => cases hd
theorem isList_of {a : Addr} {n : Nat} (e : h.get? a = some (lstObj vs n)) : h.IsList a vs.toArray := ⟨_, e, rfl, n, rfl⟩
end
end Mine
set_option Elab.async false
set_option tactic.hygienic false
namespace Mine
open PySem PyProof.Rows

/-- what stands fast: the top's size, its names, its written objects, its code tables -/
structure WC where
  n₀ : Nat
  mg : Str → Option Value
  mb : Str → Option Value
  K : List (Addr × Obj)
  C : List (Addr × Addr)
noncomputable def WC.T (W : WC) : List Addr := W.C.map (·.2)
structure WC.Ok (W : WC) : Prop where
  lo : mainGlobals < W.n₀ ∧ builtinsNs < W.n₀ ∧ cStatics < W.n₀
  loT : mainGlobals ∉ W.T ∧ builtinsNs ∉ W.T ∧ cStatics ∉ W.T
  k : ∀ p ∈ W.K, p.1 < W.n₀ ∧ p.1 ∉ W.T
  c : ∀ q ∈ W.C, q.1 < W.n₀ ∧ q.2 < W.n₀ ∧ q.1 ∉ W.T
  nd : W.T.Nodup
  top : ∃ (b : Nat) (o : Obj), (b, o) ∈ W.K ∧ b + 1 = W.n₀

structure Wd (W : WC) (h : Heap) : Prop where
  g : h.Ns mainGlobals W.mg
  b : h.Ns builtinsNs W.mb
  nl : h.NoLimit
  nd : ∃ mc, h.Ns cStatics mc ∧ mc "sys.int_max_str_digits" = none
  k : ∀ p ∈ W.K, h.get? p.1 = some p.2
  t : ∀ q ∈ W.C, ∃ ps, h.IsCode q.1 q.2 ps ∧ h.TableAt q.1 q.2 ps

theorem WC.T_lt {W : WC} (hW : W.Ok) {a : Addr} (h : a ∈ W.T) : a < W.n₀ := by
  obtain ⟨q, hq, rfl⟩ := List.mem_map.mp h
  exact (hW.c q hq).2.1

theorem Wd.keep {W : WC} {h h' : Heap} (x : Wd W h) (hW : W.Ok) (k : ∀ b o, b < W.n₀ → h.get? b = some o → h'.get? b = some o) : Wd W h' where
  g := x.g.at' fun o e => k _ o hW.lo.1 e
  b := x.b.at' fun o e => k _ o hW.lo.2.1 e
  nl := let ⟨m, a, b⟩ := x.nl; ⟨m, a.at' fun o e => k _ o hW.lo.2.2 e, b⟩
  nd := let ⟨m, a, b⟩ := x.nd; ⟨m, a.at' fun o e => k _ o hW.lo.2.2 e, b⟩
  k := fun p hp => k _ _ (hW.k p hp).1 (x.k p hp)
  t := fun q hq => by
    obtain ⟨ps, a, b⟩ := x.t q hq
    refine ⟨ps, ?_, ?_⟩
    · obtain ⟨o, vs, file, tf, flags, tg, inF, text, tt, op, e1, r1, r2, r3, r4, r5, r6, e2, r⟩ := a
      exact ⟨o, vs, file, tf, flags, tg, inF, text, tt, op, k _ _ (hW.c q hq).1 e1, r1, r2, r3, r4, r5, r6, k _ _ (hW.c q hq).2.1 e2, r⟩
    · obtain ⟨⟨o, vs, e1, r⟩, e2⟩ := b
      exact ⟨⟨o, vs, k _ _ (hW.c q hq).1 e1, r⟩, k _ _ (hW.c q hq).2.1 e2⟩
theorem Wd.sz {W : WC} {h : Heap} (x : Wd W h) (hW : W.Ok) : W.n₀ ≤ h.objs.size := by
  obtain ⟨b, o, hm, e⟩ := hW.top
  have q : @LT.lt Nat _ b h.objs.size := Heap.lt_size (x.k _ hm)
  lia
theorem Wd.live {W : WC} {h : Heap} (x : Wd W h) {a : Addr} (ha : a ∈ W.T) : ∃ o, h.get? a = some o := by
  obtain ⟨q, hq, rfl⟩ := List.mem_map.mp ha
  obtain ⟨ps, _, b⟩ := x.t q hq
  exact ⟨_, b.2⟩

/-- gens: what was there stands, none is left with cleanup -/
structure GK (g g' : Array GenState) : Prop where
  keep : ∀ (i : Nat) x, g[i]? = some x → g'[i]? = some x
  bare : AllBare g → AllBare g'
theorem GK.refl (g : Array GenState) : GK g g := ⟨fun _ _ h => h, id⟩
theorem GK.trans {a b c : Array GenState} (x : GK a b) (y : GK b c) : GK a c := ⟨fun i z h => y.keep i z (x.keep i z h), y.bare ∘ x.bare⟩

/-- a step that changes nothing that stood, code tables aside -/
structure Step (W : WC) (s s' : Shared) : Prop where
  kp : ∀ b o, b ∉ W.T → s.heap.get? b = some o → s'.heap.get? b = some o
  wd : Wd W s'.heap
  gk : GK s.gens s'.gens
  os : (s'.os, s'.drawn) = (s.os, s.drawn)
theorem Step.refl {W : WC} {s : Shared} (h : Wd W s.heap) : Step W s s := ⟨fun _ _ _ e => e, h, .refl _, rfl⟩
theorem Step.trans {W : WC} {a b c : Shared} (x : Step W a b) (y : Step W b c) : Step W a c :=
  ⟨fun d o hd e => y.kp d o hd (x.kp d o hd e), y.wd, x.gk.trans y.gk, y.os.trans x.os⟩
theorem Step.toks {W : WC} {s s' : Shared} (x : Step W s s') {k : Nat} : Step W s { s' with toks := k } := ⟨x.kp, x.wd, x.gk, x.os⟩
/-- a heap that keeps all -/
theorem Step.grown {W : WC} (hW : W.Ok) {s s' : Shared} (x : Step W s s') {h' : Heap} {k : Nat} (hk : ∀ b o, s'.heap.get? b = some o → h'.get? b = some o) : Step W s { s' with heap := h', toks := k } :=
  ⟨fun b o hb e => hk b o (x.kp b o hb e), x.wd.keep hW fun b o _ e => hk b o e, x.gk, x.os⟩
theorem Step.push {W : WC} (hW : W.Ok) {s s' : Shared} (x : Step W s s') (o : Obj) : Step W s { s' with heap := s'.heap.push o } :=
  ⟨fun b o' hb e => Heap.get?_push_of_some o (x.kp b o' hb e), x.wd.keep hW fun b o' _ e => Heap.get?_push_of_some o e, x.gk, x.os⟩

/-- a variable's slot: a datum that stands, or a list of one's own that may still grow -/
inductive VSlot where
  | fz (d : PyData)
  | own (ds : List PyData)
noncomputable abbrev Rho := List (Str × VSlot)
noncomputable def SlotOk (W : WC) (X₀ X : List Addr) (h : Heap) (v : Value) : VSlot → Prop
  | .fz d => Rd X h v d
  | .own ds => ∃ a vs n, v = .ref a ∧ a ∈ X ∧ (W.n₀ ≤ a ∧ a ∉ X₀) ∧ h.get? a = some (lstObj vs n) ∧ RdAll X h vs ds

/-- where a name's value lies -/
noncomputable def At (env : Env) (h : Heap) (m : Str → Option Value) (x : Str) (v : Value) : Prop :=
  (env.kindOf x = some .local ∧ m x = some v) ∨ ((env.kindOf x = some .cell ∨ env.kindOf x = some .free) ∧ ∃ c, env.cells.lookup x = some c ∧ h.IsCell c (some v))

structure Fok (W : WC) (X₀ X : List Addr) (env : Env) (h : Heap) (ρ : Rho) : Prop where
  kind : env.scope.kind = .function
  X0 : ∀ a ∈ X₀, a ∈ X
  glob : env.globals = mainGlobals
  blt : env.builtins = builtinsNs
  T0 : ∀ a ∈ W.T, a ∈ X₀
  live : ∀ a ∈ X, ∃ o, h.get? a = some o
  hi : ∀ a ∈ X, a ∈ W.T ∨ W.n₀ ≤ a
  L : env.locals ∈ X ∧ W.n₀ ≤ env.locals ∧ env.locals ∉ X₀
  cells : ∀ x c, env.cells.lookup x = some c → c ∈ X ∧ W.n₀ ≤ c ∧ ∃ v, h.IsCell c v
  cown : ∀ x c, env.func.isSome = true → env.cells.lookup x = some c → c ∉ X₀
  cinj : ∀ x y c, env.cells.lookup x = some c → env.cells.lookup y = some c → x = y
  ns : ∃ m, h.Ns env.locals m ∧ (∀ x sl, ρ.lookup x = some sl → ∃ v, At env h m x v ∧ SlotOk W X₀ X h v sl) ∧
    (∀ x y ds es a b, x ≠ y → ρ.lookup x = some (.own ds) → ρ.lookup y = some (.own es) → At env h m x (.ref a) → At env h m y (.ref b) → a ≠ b)

structure AOK (n : Nat) (A : Around) : Prop where
  hd : A.handled = none
  dp : A.depth + n ≤ 900
  un : A.units + 20 * n ≤ 9000
theorem AOK.deeper {n : Nat} {A : Around} (h : AOK (n + 1) A) (env : Env) : AOK n (A.deeper env) :=
  ⟨h.hd, by have := h.dp; show A.depth + 1 + n ≤ 900; lia, by have := h.un; show A.units + 3 + 20 * n ≤ 9000; lia⟩
theorem AOK.in1 {n : Nat} {A : Around} (h : AOK (n + 1) A) : AOK n A.in1 :=
  ⟨h.hd, by have := h.dp; show A.depth + n ≤ 900; lia, by have := h.un; show A.units + 1 + 20 * n ≤ 9000; lia⟩
theorem AOK.le {n k : Nat} {A : Around} (h : AOK n A) (hk : k ≤ n) : AOK k A := ⟨h.hd, by have := h.dp; lia, by have := h.un; lia⟩
theorem AOK.room {n : Nat} {A : Around} (h : AOK n A) : A.depth < recursionLimit := by have := h.dp; show A.depth < 1000; lia
theorem AOK.units {n : Nat} {A : Around} (h : AOK n A) : A.units + 64 < cLine := by have := h.un; show A.units + 64 < 9900; lia

theorem At.step {env : Env} {h h' : Heap} {m : Str → Option Value} {x : Str} {v : Value} (a : At env h m x v) (k : ∀ c o, env.cells.lookup x = some c → h.get? c = some o → h'.get? c = some o) : At env h' m x v :=
  a.imp id fun ⟨hk, c, hc, o, e, dd⟩ => ⟨hk, c, hc, o, k c o hc e, dd⟩

section
variable {W : WC} {X₀ X : List Addr} {env : Env} {h h' : Heap} {ρ : Rho}
theorem Fok.T (F : Fok W X₀ X env h ρ) : ∀ a ∈ W.T, a ∈ X := fun a ha => F.X0 a (F.T0 a ha)
theorem Fok.X_T (F : Fok W X₀ X env h ρ) {b : Addr} (hb : b ∉ X) : b ∉ W.T := fun ht => hb (F.T b ht)
theorem Fok.hiT (hW : W.Ok) {b : Addr} (hb : W.n₀ ≤ b) : b ∉ W.T := fun ht => Nat.lt_irrefl _ (Nat.lt_of_lt_of_le (WC.T_lt hW ht) hb)
theorem Rd.step (hX : ∀ a ∈ W.T, a ∈ X) {s s' : Shared} (st : Step W s s') {v d} (r : Rd X s.heap v d) : Rd X s'.heap v d :=
  r.mono fun b o hb e => ⟨hb, st.kp b o (fun ht => hb (hX b ht)) e⟩
theorem RdAll.step (hX : ∀ a ∈ W.T, a ∈ X) {s s' : Shared} (st : Step W s s') {v d} (r : RdAll X s.heap v d) : RdAll X s'.heap v d :=
  r.mono fun b o hb e => ⟨hb, st.kp b o (fun ht => hb (hX b ht)) e⟩

theorem At.same {m : Str → Option Value} {x : Str} {v u : Value} (a : At env h m x v) (b : At env h m x u) : v = u := by
  rcases a with ⟨k, e⟩ | ⟨k, c, hc, e⟩ <;> rcases b with ⟨k', e'⟩ | ⟨k', c', hc', e'⟩
  · rw [e] at e'; exact Option.some.inj e'
  · rw [k] at k'; rcases k' with k' | k' <;> cases k'
  · rw [k'] at k; rcases k with k | k <;> cases k
  · rw [hc] at hc'; cases hc'
    obtain ⟨o, e, dd⟩ := e
    obtain ⟨o', e', dd'⟩ := e'
    rw [e] at e'; cases e'; rw [dd] at dd'; cases dd'; rfl

theorem Fok.step (hW : W.Ok) {s s' : Shared} (F : Fok W X₀ X env s.heap ρ) (st : Step W s s') : Fok W X₀ X env s'.heap ρ := by
  have kh : ∀ b o, W.n₀ ≤ b → s.heap.get? b = some o → s'.heap.get? b = some o := fun b o hb e => st.kp b o (Fok.hiT hW hb) e
  obtain ⟨m, hn, hv, hs⟩ := F.ns
  refine ⟨F.kind, F.X0, F.glob, F.blt, F.T0, fun a ha => ?_, F.hi, F.L, fun x c hc => ?_, F.cown, F.cinj, m, hn.at' fun o e => kh _ o F.L.2.1 e, fun x sl hx => ?_, fun x y ds es a b hxy hx hy ax ay => ?_⟩
  · rcases F.hi a ha with ht | hg
    · exact st.wd.live ht
    · obtain ⟨o, e⟩ := F.live a ha
      exact ⟨o, kh a o hg e⟩
  · obtain ⟨a, b, v, o, e, dd⟩ := F.cells x c hc
    exact ⟨a, b, v, o, kh _ _ b e, dd⟩
  · obtain ⟨v, a, k⟩ := hv x sl hx
    refine ⟨v, a.step fun c o hc e => kh c o (F.cells x c hc).2.1 e, ?_⟩
    cases sl with
    | fz d => exact Rd.step F.T st k
    | own ds =>
      obtain ⟨b, vs, n, e1, e2, hg, e3, r⟩ := k
      exact ⟨b, vs, n, e1, e2, hg, kh b _ hg.1 e3, RdAll.step F.T st r⟩
  · obtain ⟨v, a1, _⟩ := hv x _ hx
    obtain ⟨u, a2, _⟩ := hv y _ hy
    have b1 := (a1.step fun c o hc e => kh c o (F.cells x c hc).2.1 e).same ax
    have b2 := (a2.step fun c o hc e => kh c o (F.cells y c hc).2.1 e).same ay
    subst b1; subst b2
    exact hs x y ds es a b hxy hx hy a1 a2
end
end Mine
set_option Elab.async false
set_option tactic.hygienic false
namespace Mine
open PySem PyProof.Rows

structure G where
  prog : Program
  w : World
  W : WC
  ok : W.Ok
noncomputable abbrev G.M (g : G) : Model := model g.prog g.w
noncomputable abbrev NoE : Value → Shared → Prop := fun _ _ => False

structure Ev (g : G) (n : Nat) (X₀ X : List Addr) (env : Env) (ρ : Rho) (e : Expr) (d : PyData) : Prop where
  mk ::
  run : ∀ A s, AOK n A → Wd g.W s.heap → Fok g.W X₀ X env s.heap ρ → wpAny (model g.prog g.w) A (eval e env) (fun v s' => Step g.W s s' ∧ Rd X s'.heap v d) NoE s
/-- a test -/
structure Tr (g : G) (n : Nat) (X₀ X : List Addr) (env : Env) (ρ : Rho) (e : Expr) (b : Bool) : Prop where
  mk ::
  run : ∀ A s, AOK n A → Wd g.W s.heap → Fok g.W X₀ X env s.heap ρ → wpAny (model g.prog g.w) A (isTrue e env (eval e env)) (fun c s' => Step g.W s s' ∧ c = b) NoE s
/-- arguments, items -/
structure EvA (g : G) (n : Nat) (X₀ X : List Addr) (env : Env) (ρ : Rho) (es : List Expr) (ds : List PyData) : Prop where
  ns : ∀ q ∈ starEach es env, q.1 = false
  run : ∀ pos A s, AOK n A → Wd g.W s.heap → Fok g.W X₀ X env s.heap ρ → wpAny (model g.prog g.w) A (spliced (backTo pos (starEach es env))) (fun vs s' => Step g.W s s' ∧ RdAll X s'.heap vs ds) NoE s
/-- a new list, not yet fast -/
structure EvL (g : G) (n : Nat) (X₀ X : List Addr) (env : Env) (ρ : Rho) (e : Expr) (ds : List PyData) : Prop where
  mk ::
  run : ∀ A s, AOK n A → Wd g.W s.heap → Fok g.W X₀ X env s.heap ρ → wpAny (model g.prog g.w) A (eval e env)
    (fun v s' => Step g.W s s' ∧ ∃ a vs k, v = .ref a ∧ g.W.n₀ ≤ a ∧ s.heap.get? a = none ∧ s'.heap.get? a = some (lstObj vs k) ∧ RdAll (a :: X) s'.heap vs ds) NoE s

structure XOK (W : WC) (X : List Addr) (h : Heap) : Prop where
  T : ∀ a ∈ W.T, a ∈ X
  live : ∀ a ∈ X, ∃ o, h.get? a = some o
  hi : ∀ a ∈ X, a ∈ W.T ∨ W.n₀ ≤ a
theorem Fok.xok {W : WC} {X₀ X : List Addr} {env : Env} {h : Heap} {ρ : Rho} (F : Fok W X₀ X env h ρ) : XOK W X h := ⟨F.T, F.live, F.hi⟩
theorem XOK.fresh {W : WC} {X : List Addr} {h : Heap} (x : XOK W X h) {a : Addr} (ha : h.objs.size ≤ a) : a ∉ X := fun hx => by
  obtain ⟨o, e⟩ := x.live a hx
  exact Nat.lt_irrefl _ (Nat.lt_of_lt_of_le (Heap.lt_size e) ha)
theorem XOK.free {W : WC} {X : List Addr} {h : Heap} (x : XOK W X h) {a : Addr} (ha : h.get? a = none) : a ∉ X := fun hx => by
  obtain ⟨o, e⟩ := x.live a hx
  rw [ha] at e; cases e
theorem Step.free {W : WC} (hW : W.Ok) {s s' : Shared} (st : Step W s s') {a : Addr} (ha : W.n₀ ≤ a) (h : s'.heap.get? a = none) : s.heap.get? a = none := by
  cases e : s.heap.get? a with
  | none => rfl
  | some o => rw [st.kp a o (Fok.hiT hW ha) e] at h; cases h
theorem get_size (h : Heap) : h.get? h.objs.size = none := by
  cases e : h.get? h.objs.size with
  | none => rfl
  | some o => exact absurd (Heap.lt_size e) (Nat.lt_irrefl _)
theorem XOK.step {W : WC} (hW : W.Ok) {X : List Addr} {s s' : Shared} (x : XOK W X s.heap) (st : Step W s s') : XOK W X s'.heap :=
  ⟨x.T, fun a ha => by
    rcases x.hi a ha with ht | hg
    · exact st.wd.live ht
    · obtain ⟨o, e⟩ := x.live a ha
      exact ⟨o, st.kp a o (Fok.hiT hW hg) e⟩, x.hi⟩

/-- a function's contract -/
noncomputable def Calls (g : G) (n : Nat) (f : Value) (ds : List PyData) (d : PyData) : Prop :=
  ∀ X A s vs, AOK n A → Wd g.W s.heap → XOK g.W X s.heap → RdAll X s.heap vs ds →
    wpAny (model g.prog g.w) A (call f vs []) (fun v s' => Step g.W s s' ∧ Rd X s'.heap v d) NoE s

section
variable {g : G} {n : Nat} {X₀ X : List Addr} {env : Env} {ρ : Rho} {e l r : Expr} {d : PyData}

theorem Ev.use (H : Ev g n X₀ X env ρ e d) {A : Around} {s s₀ : Shared} (hA : AOK n A) (st : Step g.W s₀ s) (hf : Fok g.W X₀ X env s.heap ρ) {Q : Value → Shared → Prop}
    (k : ∀ v s', Step g.W s₀ s' → Step g.W s s' → Fok g.W X₀ X env s'.heap ρ → Rd X s'.heap v d → Q v s') : wpAny (model g.prog g.w) A (eval e env) Q NoE s :=
  wpAny_mono (H.run A s hA st.wd hf) (fun v s' ⟨a, b⟩ => k v s' (st.trans a) a (hf.step g.ok a) b) fun _ _ x => x
theorem Tr.use {b : Bool} (H : Tr g n X₀ X env ρ e b) {A : Around} {s s₀ : Shared} (hA : AOK n A) (st : Step g.W s₀ s) (hf : Fok g.W X₀ X env s.heap ρ) {Q : Bool → Shared → Prop}
    (k : ∀ s', Step g.W s₀ s' → Step g.W s s' → Fok g.W X₀ X env s'.heap ρ → Q b s') : wpAny (model g.prog g.w) A (isTrue e env (eval e env)) Q NoE s :=
  wpAny_mono (H.run A s hA st.wd hf) (fun _ s' ⟨a, b⟩ => b ▸ k s' (st.trans a) a (hf.step g.ok a)) fun _ _ x => x
theorem EvA.use {es : List Expr} {ds : List PyData} (H : EvA g n X₀ X env ρ es ds) {pos : Pos} {A : Around} {s s₀ : Shared} (hA : AOK n A) (st : Step g.W s₀ s) (hf : Fok g.W X₀ X env s.heap ρ) {Q : List Value → Shared → Prop}
    (k : ∀ v s', Step g.W s₀ s' → Step g.W s s' → Fok g.W X₀ X env s'.heap ρ → RdAll X s'.heap v ds → Q v s') : wpAny (model g.prog g.w) A (spliced (backTo pos (starEach es env))) Q NoE s :=
  wpAny_mono (H.run pos A s hA st.wd hf) (fun v s' ⟨a, b⟩ => k v s' (st.trans a) a (hf.step g.ok a) b) fun _ _ x => x

/-- a binary step: both sides, then the operation -/
theorem Ev.bin {op : Operator} {pos : Pos} {a b : PyData} (hl : Ev g n X₀ X env ρ l a) (hr : Ev g n X₀ X env ρ r b)
    (h : ∀ A s v u, AOK n A → Wd g.W s.heap → XOK g.W X s.heap → Rd X s.heap v a → Rd X s.heap u b → wpAny (model g.prog g.w) A (binaryOp op v u) (fun v s' => Step g.W s s' ∧ Rd X s'.heap v d) NoE s) :
    Ev g n X₀ X env ρ (.BinOp l op r pos) d := .mk fun A s hA hw hf => by
  refine wpAny_BinOp (hl.use hA (.refl hw) hf fun v s1 _ st hf1 r1 => hr.use hA st hf1 fun u s2 st2 st21 hf2 r2 => ?_)
  exact wpAny_mono (h A s2 v u hA st2.wd hf2.xok (Rd.step hf.T st21 r1) r2) (fun v s' ⟨a, b⟩ => ⟨st2.trans a, b⟩) fun _ _ x => x
theorem Ev.cmp {op : CmpOp} {pos : Pos} {a b : PyData} (hl : Ev g n X₀ X env ρ l a) (hr : Ev g n X₀ X env ρ r b)
    (h : ∀ A s v u, AOK n A → Wd g.W s.heap → XOK g.W X s.heap → Rd X s.heap v a → Rd X s.heap u b → wpAny (model g.prog g.w) A (compareOp op v u) (fun v s' => Step g.W s s' ∧ Rd X s'.heap v d) NoE s)
    (hm : behindInMarks op r = false := by with_unfolding_all rfl) :
    Ev g n X₀ X env ρ (.Compare l [op] [r] pos) d := .mk fun A s hA hw hf => by
  refine wpAny_Compare1 (hl.use hA (.refl hw) hf fun v s1 _ st hf1 r1 => hr.use hA st hf1 fun u s2 st2 st21 hf2 r2 => ?_) hm
  exact wpAny_mono (h A s2 v u hA st2.wd hf2.xok (Rd.step hf.T st21 r1) r2) (fun v s' ⟨a, b⟩ => ⟨st2.trans a, b⟩) fun _ _ x => x
theorem Tr.cmp {op : CmpOp} {pos : Pos} {a b : PyData} {c : Bool} (hl : Ev g n X₀ X env ρ l a) (hr : Ev g n X₀ X env ρ r b)
    (h : ∀ A s v u, AOK n A → Wd g.W s.heap → XOK g.W X s.heap → Rd X s.heap v a → Rd X s.heap u b → wpAny (model g.prog g.w) A (compareOp op v u) (fun v s' => Step g.W s s' ∧ Rd X s'.heap v (.bool c)) NoE s)
    (hm : behindInMarks op r = false := by with_unfolding_all rfl) :
    Tr g n X₀ X env ρ (.Compare l [op] [r] pos) c := .mk fun A s hA hw hf => by
  refine wpAny_isTrue_Compare1 (hl.use hA (.refl hw) hf fun v s1 _ st hf1 r1 => hr.use hA st hf1 fun u s2 st2 st21 hf2 r2 => ?_) hm
  refine wpAny_mono (h A s2 v u hA st2.wd hf2.xok (Rd.step hf.T st21 r1) r2) (fun v s' ⟨a, b⟩ => ?_) fun _ _ x => x
  rw [b.bool_inv]
  exact wpAny_truthy_bool ⟨st2.trans a, rfl⟩

-- constants
theorem Ev.int {i : Int} {k : Nat} {pos : Pos} : Ev g n X₀ X env ρ (.Constant (.int i) k pos) (.int i) := .mk fun _ _ _ hw _ => wpAny_Constant_int ⟨(Step.refl hw).toks, .int ..⟩
theorem Ev.str {i : Str} {k : Nat} {pos : Pos} : Ev g n X₀ X env ρ (.Constant (.str i) k pos) (.str i) := .mk fun _ _ _ hw _ => wpAny_Constant_str ⟨(Step.refl hw).toks, .str ..⟩
theorem Ev.bool {b : Bool} {k : Nat} {pos : Pos} : Ev g n X₀ X env ρ (.Constant (.bool b) k pos) (.bool b) := .mk fun _ _ _ hw _ => wpAny_Constant_bool ⟨.refl hw, .bool ..⟩
theorem Ev.noneC {k : Nat} {pos : Pos} : Ev g n X₀ X env ρ (.Constant .none k pos) .none := .mk fun _ _ _ hw _ => wpAny_Constant_none ⟨.refl hw, .none⟩

-- names
theorem Fok.load {W : WC} {h : Heap} (F : Fok W X₀ X env h ρ) {x : Str} {sl : VSlot} (hx : ρ.lookup x = some sl) : ∃ m v, h.Ns env.locals m ∧ At env h m x v ∧ SlotOk W X₀ X h v sl :=
  let ⟨m, hn, hv, _⟩ := F.ns; let ⟨v, a, b⟩ := hv x sl hx; ⟨m, v, hn, a, b⟩
theorem load_at {M : Model} {A : Around} {E : Value → Shared → Prop} {s : Shared} {x : Str} {m : Str → Option Value} {v : Value} {Q : Value → Shared → Prop} (hk : env.scope.kind = .function) (hn : s.heap.Ns env.locals m) (a : At env s.heap m x v)
    (h : Q v s) (hc : (x == ("__classdict__" : Str)) = false) : wpAny M A (loadName env x) Q E s := by
  rcases a with ⟨k, e⟩ | ⟨k | k, c, hcl, e⟩
  · exact wpAny_loadName_local hk k hn e h
  · exact wpAny_loadName_cell hk k hcl e h
  · exact wpAny_loadName_free hk k hcl e h hc
theorem Ev.name {x : Str} {pos : Pos} (hx : ρ.lookup x = some (.fz d)) (hd : ((x == ("__debug__" : Str)) || (x == ("__classdict__" : Str))) = false := by decide) : Ev g n X₀ X env ρ (.Name x pos) d := .mk fun A s hA hw hf => by
  obtain ⟨m, v, hn, a, k⟩ := hf.load hx
  obtain ⟨h1, h2⟩ := Bool.or_eq_false_iff.mp hd
  exact wpAny_Name (load_at hf.kind hn a ⟨.refl hw, k⟩ h2) h1

-- int
theorem Ev.add {pos : Pos} {i j : Int} (hl : Ev g n X₀ X env ρ l (.int i)) (hr : Ev g n X₀ X env ρ r (.int j)) : Ev g n X₀ X env ρ (.BinOp l .Add r pos) (.int (i + j)) :=
  hl.bin hr fun A s v u hA hw _ r1 r2 => by
    obtain ⟨t, rfl⟩ := r1.int_inv; obtain ⟨t', rfl⟩ := r2.int_inv
    exact P.add_int ⟨(Step.refl hw).toks, .int ..⟩
end
end Mine
set_option Elab.async false
set_option linter.unusedVariables false
set_option tactic.hygienic false
namespace Mine
open PySem PyProof.Rows

/-- an operation on two data -/
noncomputable def OpB (g : G) (n : Nat) (op : Operator) (a b d : PyData) : Prop :=
  ∀ X A s v u, AOK n A → Wd g.W s.heap → XOK g.W X s.heap → Rd X s.heap v a → Rd X s.heap u b → wpAny (model g.prog g.w) A (binaryOp op v u) (fun v s' => Step g.W s s' ∧ Rd X s'.heap v d) NoE s
noncomputable def OpI (g : G) (n : Nat) (op : Operator) (a b d : PyData) : Prop :=
  ∀ X A s v u, AOK n A → Wd g.W s.heap → XOK g.W X s.heap → Rd X s.heap v a → Rd X s.heap u b → wpAny (model g.prog g.w) A (inplaceOp op v u) (fun v s' => Step g.W s s' ∧ Rd X s'.heap v d) NoE s
noncomputable def CmpB (g : G) (n : Nat) (op : CmpOp) (a b : PyData) (c : Bool) : Prop :=
  ∀ X A s v u, AOK n A → Wd g.W s.heap → XOK g.W X s.heap → Rd X s.heap v a → Rd X s.heap u b → wpAny (model g.prog g.w) A (compareOp op v u) (fun v s' => Step g.W s s' ∧ v = .bool c) NoE s
/-- truth of a datum -/
noncomputable def TrB (g : G) (n : Nat) (a : PyData) (c : Bool) : Prop :=
  ∀ X A s v, AOK n A → Wd g.W s.heap → XOK g.W X s.heap → Rd X s.heap v a → wpAny (model g.prog g.w) A (truthy v) (fun v s' => Step g.W s s' ∧ v = c) NoE s

section
variable {g : G} {n : Nat} {X₀ X : List Addr} {env : Env} {ρ : Rho} {e l r : Expr} {a b d : PyData} {pos : Pos} {c : Bool}

theorem Ev.op {op : Operator} (hl : Ev g n X₀ X env ρ l a) (hr : Ev g n X₀ X env ρ r b) (h : OpB g n op a b d) : Ev g n X₀ X env ρ (.BinOp l op r pos) d := hl.bin hr (h X)
theorem Ev.cp {op : CmpOp} (hl : Ev g n X₀ X env ρ l a) (hr : Ev g n X₀ X env ρ r b) (h : CmpB g n op a b c) (hm : behindInMarks op r = false := by with_unfolding_all rfl) : Ev g n X₀ X env ρ (.Compare l [op] [r] pos) (.bool c) :=
  hl.cmp hr (fun A s v u h1 h2 h3 h4 h5 => wpAny_mono (h X A s v u h1 h2 h3 h4 h5) (fun v s' ⟨p, q⟩ => ⟨p, q ▸ .bool c⟩) fun _ _ x => x) hm
theorem Tr.cp {op : CmpOp} (hl : Ev g n X₀ X env ρ l a) (hr : Ev g n X₀ X env ρ r b) (h : CmpB g n op a b c) (hm : behindInMarks op r = false := by with_unfolding_all rfl) : Tr g n X₀ X env ρ (.Compare l [op] [r] pos) c :=
  Tr.cmp hl hr (fun A s v u h1 h2 h3 h4 h5 => wpAny_mono (h X A s v u h1 h2 h3 h4 h5) (fun v s' ⟨p, q⟩ => ⟨p, q ▸ .bool c⟩) fun _ _ x => x) hm
theorem Tr.val (he : Ev g n X₀ X env ρ e a) (h : TrB g n a c) (hs : isTrue e env (eval e env) = (do let v ← eval e env; standAt e.pos; holding [v] (truthy v)) := by intros; rfl) : Tr g n X₀ X env ρ e c := .mk fun A s hA hw hf => by
  rw [hs]
  refine wpAny_bind (he.use hA (.refl hw) hf fun v s1 st _ hf1 r1 => wpAny_bind (wpAny_standAt (wpAny_holding ?_)))
  exact wpAny_mono (h X A s1 v hA st.wd hf1.xok r1) (fun v s' ⟨p, q⟩ => ⟨st.trans p, q⟩) fun _ _ x => x

-- and, or, not in tests
theorem Tr.not (h : Tr g n X₀ X env ρ e c) : Tr g n X₀ X env ρ (.UnaryOp .Not e pos) (!c) := .mk fun A s hA hw hf =>
  wpAny_isTrue_Not (h.use hA (.refl hw) hf fun s' st _ _ => ⟨st, rfl⟩)
/-- all of a list of tests, one behind the other -/
inductive All (g : G) (n : Nat) (X₀ X : List Addr) (env : Env) (ρ : Rho) : BoolOp → List Expr → Bool → Prop
  | nil (op) : All g n X₀ X env ρ op [] (op == .And)
  | stopA {e es} : Tr g n X₀ X env ρ e false → All g n X₀ X env ρ .And (e :: es) false
  | stopO {e es} : Tr g n X₀ X env ρ e true → All g n X₀ X env ρ .Or (e :: es) true
  | goA {e es c} : Tr g n X₀ X env ρ e true → All g n X₀ X env ρ .And es c → All g n X₀ X env ρ .And (e :: es) c
  | goO {e es c} : Tr g n X₀ X env ρ e false → All g n X₀ X env ρ .Or es c → All g n X₀ X env ρ .Or (e :: es) c
theorem Tr.all {op : BoolOp} {es : List Expr} (h : All g n X₀ X env ρ op es c) : Tr g n X₀ X env ρ (.BoolOp op es pos) c := .mk fun A s hA hw hf => by
  refine wpAny_isTrue_BoolOp ?_
  revert s
  induction h with
  | nil op =>
    intro s hw hf
    cases op
    · exact wpAny_allTrue_And_nil ⟨.refl hw, rfl⟩
    · exact wpAny_allTrue_Or_nil ⟨.refl hw, rfl⟩
  | stopA h => intro s hw hf; exact wpAny_allTrue_And_cons (h.use hA (.refl hw) hf fun s' st _ _ => ⟨st, rfl⟩)
  | stopO h => intro s hw hf; exact wpAny_allTrue_Or_cons (h.use hA (.refl hw) hf fun s' st _ _ => ⟨st, rfl⟩)
  | goA h _ ih => intro s hw hf; exact wpAny_allTrue_And_cons (h.use hA (.refl hw) hf fun s' st _ hf' => wpAny_mono (ih s' st.wd hf') (fun _ _ ⟨p, q⟩ => ⟨st.trans p, q⟩) fun _ _ x => x)
  | goO h _ ih => intro s hw hf; exact wpAny_allTrue_Or_cons (h.use hA (.refl hw) hf fun s' st _ hf' => wpAny_mono (ih s' st.wd hf') (fun _ _ ⟨p, q⟩ => ⟨st.trans p, q⟩) fun _ _ x => x)
theorem Ev.ite {test body orelse : Expr} (ht : Tr g n X₀ X env ρ test c) (h1 : c = true → Ev g n X₀ X env ρ body d) (h2 : c = false → Ev g n X₀ X env ρ orelse d) : Ev g n X₀ X env ρ (.IfExp test body orelse pos) d := .mk fun A s hA hw hf => by
  refine wpAny_IfExp (ht.use hA (.refl hw) hf fun s' st _ hf' => ?_)
  cases c with
  | true => exact (h1 rfl).use hA st hf' fun v s2 st2 _ _ r => ⟨st2, r⟩
  | false => exact (h2 rfl).use hA st hf' fun v s2 st2 _ _ r => ⟨st2, r⟩
end

section
variable {g : G} {n : Nat} {i j : Int} {x y : Str} {ds es : List PyData} {d : PyData}
theorem op_add : OpB g n .Add (.int i) (.int j) (.int (i + j)) := fun X A s v u hA hw hx r1 r2 => by
  obtain ⟨t, rfl⟩ := r1.int_inv; obtain ⟨t', rfl⟩ := r2.int_inv; exact P.add_int ⟨(Step.refl hw).toks, .int ..⟩
theorem op_iadd : OpI g n .Add (.int i) (.int j) (.int (i + j)) := fun X A s v u hA hw hx r1 r2 => by
  obtain ⟨t, rfl⟩ := r1.int_inv; obtain ⟨t', rfl⟩ := r2.int_inv; exact P.iadd_int ⟨(Step.refl hw).toks, .int ..⟩
theorem op_sub : OpB g n .Sub (.int i) (.int j) (.int (i - j)) := fun X A s v u hA hw hx r1 r2 => by
  obtain ⟨t, rfl⟩ := r1.int_inv; obtain ⟨t', rfl⟩ := r2.int_inv; exact P.sub_int ⟨(Step.refl hw).toks, .int ..⟩
theorem op_mul (h : IntMulOk i j) : OpB g n .Mult (.int i) (.int j) (.int (i * j)) := fun X A s v u hA hw hx r1 r2 => by
  obtain ⟨t, rfl⟩ := r1.int_inv; obtain ⟨t', rfl⟩ := r2.int_inv; exact P.mul_int ⟨(Step.refl hw).toks, .int ..⟩ h
theorem op_mod (h : j ≠ 0) : OpB g n .Mod (.int i) (.int j) (.int (i.fmod j)) := fun X A s v u hA hw hx r1 r2 => by
  obtain ⟨t, rfl⟩ := r1.int_inv; obtain ⟨t', rfl⟩ := r2.int_inv; exact mod_int' h ⟨(Step.refl hw).toks, .int ..⟩
theorem op_fdiv (h : j ≠ 0) (hp : Builtin.divisionGoesByPylong i j = false) : OpB g n .FloorDiv (.int i) (.int j) (.int (i.fdiv j)) := fun X A s v u hA hw hx r1 r2 => by
  obtain ⟨t, rfl⟩ := r1.int_inv; obtain ⟨t', rfl⟩ := r2.int_inv; exact floordiv_int h ⟨(Step.refl hw).toks, .int ..⟩ (.inl hp)
theorem cmp_eq : CmpB g n .Eq (.int i) (.int j) (i == j) := fun X A s v u hA hw hx r1 r2 => by
  obtain ⟨t, rfl⟩ := r1.int_inv; obtain ⟨t', rfl⟩ := r2.int_inv; exact P.eq_int ⟨.refl hw, rfl⟩
theorem cmp_ne : CmpB g n .NotEq (.int i) (.int j) (i != j) := fun X A s v u hA hw hx r1 r2 => by
  obtain ⟨t, rfl⟩ := r1.int_inv; obtain ⟨t', rfl⟩ := r2.int_inv; exact P.ne_int ⟨.refl hw, rfl⟩
theorem cmp_lt : CmpB g n .Lt (.int i) (.int j) (decide (i < j)) := fun X A s v u hA hw hx r1 r2 => by
  obtain ⟨t, rfl⟩ := r1.int_inv; obtain ⟨t', rfl⟩ := r2.int_inv; exact P.lt_int ⟨.refl hw, rfl⟩
theorem cmp_le : CmpB g n .LtE (.int i) (.int j) (decide (i ≤ j)) := fun X A s v u hA hw hx r1 r2 => by
  obtain ⟨t, rfl⟩ := r1.int_inv; obtain ⟨t', rfl⟩ := r2.int_inv; exact P.le_int ⟨.refl hw, rfl⟩
theorem cmp_gt : CmpB g n .Gt (.int i) (.int j) (decide (i > j)) := fun X A s v u hA hw hx r1 r2 => by
  obtain ⟨t, rfl⟩ := r1.int_inv; obtain ⟨t', rfl⟩ := r2.int_inv; exact P.gt_int ⟨.refl hw, rfl⟩
theorem cmp_ge : CmpB g n .GtE (.int i) (.int j) (decide (i ≥ j)) := fun X A s v u hA hw hx r1 r2 => by
  obtain ⟨t, rfl⟩ := r1.int_inv; obtain ⟨t', rfl⟩ := r2.int_inv; exact P.ge_int ⟨.refl hw, rfl⟩
theorem str_beq' (x y : Str) : (x.cps.toList == y.cps.toList) = (x == y) := SeqAt.str_beq x y
theorem cmp_eqS : CmpB g n .Eq (.str x) (.str y) (x == y) := fun X A s v u hA hw hx r1 r2 => by
  obtain ⟨t, rfl⟩ := r1.str_inv; obtain ⟨t', rfl⟩ := r2.str_inv; exact P.eq_str ⟨.refl hw, by rw [str_beq']⟩
theorem cmp_neS : CmpB g n .NotEq (.str x) (.str y) (x != y) := fun X A s v u hA hw hx r1 r2 => by
  obtain ⟨t, rfl⟩ := r1.str_inv; obtain ⟨t', rfl⟩ := r2.str_inv; exact P.ne_str ⟨.refl hw, by rw [bne, bne, str_beq']⟩
theorem tr_bool {b : Bool} : TrB g n (.bool b) b := fun X A s v hA hw hx r => by rw [r.bool_inv]; exact wpAny_truthy_bool ⟨.refl hw, rfl⟩
theorem tr_str (h : x.length ≤ sizeLine) : TrB g n (.str x) (x.length != 0) := fun X A s v hA hw hx r => by
  obtain ⟨t, rfl⟩ := r.str_inv
  refine P.truthy_str (by have := h; simp only [sizeLine] at this; lia) ⟨(Step.refl hw).toks, ?_⟩
  rw [Bool.eq_iff_iff]; simp
theorem op_addS (h : x.length + y.length ≤ sizeLine) : OpB g n .Add (.str x) (.str y) (.str (x ++ y)) := fun X A s v u hA hw hx r1 r2 => by
  obtain ⟨t, rfl⟩ := r1.str_inv; obtain ⟨t', rfl⟩ := r2.str_inv
  exact SB.add (fun t' k => ⟨(Step.refl hw).toks, .str ..⟩) h
theorem op_mulS (h : MulOk x i) : OpB g n .Mult (.str x) (.int i) (.str (Txt.mul x i)) := fun X A s v u hA hw hx r1 r2 => by
  obtain ⟨t, rfl⟩ := r1.str_inv; obtain ⟨t', rfl⟩ := r2.int_inv
  exact SB.mul h fun t' k => ⟨(Step.refl hw).toks, .str ..⟩
end
end Mine
set_option Elab.async false
set_option linter.unusedVariables false
set_option tactic.hygienic false
namespace Mine
open PySem PyProof.Rows

section
variable {g : G} {n : Nat} {X₀ X : List Addr} {env : Env} {ρ : Rho} {e l r : Expr} {a b d : PyData} {pos : Pos} {c : Bool} {es : List Expr} {ds : List PyData}

theorem EvA.nil : EvA g n X₀ X env ρ [] [] := ⟨(fun q h => nomatch h), fun pos A s hA hw hf => wpAny_items_nil ⟨.refl hw, .nil⟩⟩
theorem EvA.cons (h : Ev g n X₀ X env ρ e d) (hs : EvA g n X₀ X env ρ es ds) (hst : starEach (e :: es) env = (false, eval e env) :: starEach es env := by intros; rfl) : EvA g n X₀ X env ρ (e :: es) (d :: ds) := ⟨fun q hq => by
    rw [hst] at hq
    rcases List.mem_cons.mp hq with rfl | hq
    · rfl
    · exact hs.ns q hq, fun pos A s hA hw hf =>
  wpAny_items_cons (h.use hA (.refl hw) hf fun v s1 st _ hf1 r1 => hs.use hA st hf1 fun vs s2 st2 st21 hf2 r2 => ⟨st2, .cons (Rd.step hf.T st21 r1) r2⟩) hst⟩

/-- a fresh object reads as a list or a tuple -/
theorem rd_push_list {W : WC} {h : Heap} (hx : XOK W X h) {vs : List Value} {k : Nat} (r : RdAll X h vs ds) : Rd X (h.push (lstObj vs k)) (.ref h.objs.size) (.list ds) :=
  .list (hx.fresh (Nat.le_refl _)) (Heap.get?_push_size _ rfl) (r.mono fun b o hb e => ⟨hb, Heap.get?_push_of_some _ e⟩)
theorem rd_push_tuple {W : WC} {h : Heap} (hx : XOK W X h) {vs : List Value} {k : Nat} (r : RdAll X h vs ds) : Rd X (h.push (tupObj vs k)) (.ref h.objs.size) (.tuple ds) :=
  .tuple (hx.fresh (Nat.le_refl _)) (Heap.get?_push_size _ rfl) (r.mono fun b o hb e => ⟨hb, Heap.get?_push_of_some _ e⟩)
theorem rdAll_fresh {h h' : Heap} {a : Addr} (ha : h.objs.size ≤ a) (hk : ∀ b o, h.get? b = some o → h'.get? b = some o) {vs : List Value} (r : RdAll X h vs ds) : RdAll (a :: X) h' vs ds :=
  r.mono fun b o hb e => ⟨fun hm => (List.mem_cons.mp hm).elim (fun q => by subst q; exact Nat.lt_irrefl _ (Nat.lt_of_lt_of_le (Heap.lt_size e) ha)) hb, hk b o e⟩

theorem Ev.tuple {k : Nat} (h : EvA g n X₀ X env ρ es ds) (hl : ds.length ≤ sizeLine) : Ev g n X₀ X env ρ (.Tuple es k pos) (.tuple ds) := .mk fun A s hA hw hf =>
  wpAny_Tuple (h.use hA (.refl hw) hf fun vs s1 st _ hf1 r => ⟨by rw [r.length]; exact hl, st.push g.ok _, rd_push_tuple hf1.xok r⟩)
theorem EvL.list (h : EvA g n X₀ X env ρ es ds) (hl : ds.length ≤ sizeLine) : EvL g n X₀ X env ρ (.List es pos) ds := .mk fun A s hA hw hf =>
  wpAny_List (h.use hA (.refl hw) hf fun vs s1 st st' hf1 r => ⟨by rw [r.length]; exact hl, st.push g.ok _, _, vs, 0, rfl, st.wd.sz g.ok, st.free g.ok (st.wd.sz g.ok) (get_size _), Heap.get?_push_size _ rfl, rdAll_fresh (Nat.le_refl _) (fun b o e => Heap.get?_push_of_some _ e) r⟩)
theorem EvL.ev (h : EvL g n X₀ X env ρ e ds) : Ev g n X₀ X env ρ e (.list ds) := .mk fun A s hA hw hf =>
  wpAny_mono (h.run A s hA hw hf) (fun v s' ⟨st, a, vs, k, e, _, hs, hg, r⟩ => ⟨st, e ▸ .list (hf.xok.free hs) hg (r.mono fun b o hb e => ⟨fun hx => hb (List.mem_cons_of_mem _ hx), e⟩)⟩) fun _ _ x => x
end
end Mine
set_option Elab.async false
set_option linter.unusedVariables false
set_option tactic.hygienic false
namespace Mine
open PySem PyProof.Rows

section
variable {g : G} {n : Nat} {X₀ X : List Addr} {env : Env} {ρ : Rho} {e l r value slice : Expr} {a b d : PyData} {pos p : Pos} {c : Bool} {es : List Expr} {ds : List PyData} {i : Int}

theorem big63 : (2 : Int) ^ 63 = 9223372036854775808 := by decide

theorem Ev.idxL (hv : Ev g n X₀ X env ρ value (.list ds)) (hi : Ev g n X₀ X env ρ slice (.int i)) (h0 : 0 ≤ i) (h1 : i < 2 ^ 63) (hx : ds[i.toNat]? = some d)
    (hs : ∀ o i, subscripted slice false o i = operate [o, i] (getItem o i) := by intros; rfl) : Ev g n X₀ X env ρ (.Subscript value slice pos) d := .mk fun A s hA hw hf => by
  refine Subscript_ (hv.use hA (.refl hw) hf fun v s1 st _ hf1 r1 => hi.use hA st hf1 fun u s2 st2 st21 hf2 r2 => ?_)
  obtain ⟨t, rfl⟩ := r2.int_inv
  obtain ⟨a, vs, k, rfl, _, ho, ra⟩ := (Rd.step hf.T st21 r1).list_inv
  obtain ⟨v, hvs, rv⟩ := ra.get hx
  exact tail_any (isList_of ho).typeIs slot_list_getitem.lookup (wpAny_getItem_list (isList_of ho) h0 h1 (by simpa using hvs) ⟨st2, rv⟩) (hs _ _)
theorem Ev.idxLn (hv : Ev g n X₀ X env ρ value (.list ds)) (hi : Ev g n X₀ X env ρ slice (.int i)) (h0 : i < 0) (h1 : -(ds.length : Int) ≤ i) (h2 : ds.length ≤ sizeLine) (hx : ds[(i + ds.length).toNat]? = some d)
    (hs : ∀ o i, subscripted slice false o i = operate [o, i] (getItem o i) := by intros; rfl) : Ev g n X₀ X env ρ (.Subscript value slice pos) d := .mk fun A s hA hw hf => by
  refine Subscript_ (hv.use hA (.refl hw) hf fun v s1 st _ hf1 r1 => hi.use hA st hf1 fun u s2 st2 st21 hf2 r2 => ?_)
  obtain ⟨t, rfl⟩ := r2.int_inv
  obtain ⟨a, vs, k, rfl, _, ho, ra⟩ := (Rd.step hf.T st21 r1).list_inv
  obtain ⟨v, hvs, rv⟩ := ra.get hx
  have hlen : vs.length = ds.length := ra.length
  have h3 : ds.length ≤ 16777216 := h2
  refine tail_any (isList_of ho).typeIs slot_list_getitem.lookup (wpAny_getItem_list_neg (isList_of ho) h0 (by simpa [hlen] using h1) (by rw [big63]; lia) (by simpa [hlen] using hvs) ⟨st2, rv⟩) (hs _ _)
theorem Ev.idxT {k : Nat} (hv : Ev g n X₀ X env ρ value (.tuple ds)) (hi : Ev g n X₀ X env ρ slice (.int i)) (hlo : -2 ^ 63 ≤ i) (hhi : i < 2 ^ 63) (hk : seqIndex? i ds.length = some k) (hx : ds[k]? = some d)
    (hs : ∀ o i, subscripted slice false o i = operate [o, i] (getItem o i) := by intros; rfl) : Ev g n X₀ X env ρ (.Subscript value slice pos) d := .mk fun A s hA hw hf => by
  refine Subscript_ (hv.use hA (.refl hw) hf fun v s1 st _ hf1 r1 => hi.use hA st hf1 fun u s2 st2 st21 hf2 r2 => ?_)
  obtain ⟨t, rfl⟩ := r2.int_inv
  obtain ⟨a, vs, m, rfl, _, ho, ra⟩ := (Rd.step hf.T st21 r1).tuple_inv
  obtain ⟨v, hvs, rv⟩ := ra.get hx
  have hlen : vs.length = ds.length := ra.length
  exact tail_any ⟨_, ho, rfl⟩ F.slot_tuple_getitem.lookup (P.getItem_tuple ho hlo hhi (by simpa [hlen] using hk) (by simpa using hvs) ⟨st2, rv⟩) (hs _ _)

/-- a part of a slice -/
noncomputable def EvP (g : G) (n : Nat) (X₀ X : List Addr) (env : Env) (ρ : Rho) (e : Option Expr) (d : Option Int) : Prop := match e, d with
  | none, none => True
  | some e, some i => Ev g n X₀ X env ρ e (.int i)
  | _, _ => False
theorem EvP.use {e : Option Expr} {d : Option Int} (H : EvP g n X₀ X env ρ e d) {A : Around} {s s₀ : Shared} (hA : AOK n A) (st : Step g.W s₀ s) (hf : Fok g.W X₀ X env s.heap ρ) {Q : Value → Shared → Prop}
    (k : ∀ v s', Step g.W s₀ s' → Step g.W s s' → Fok g.W X₀ X env s'.heap ρ → IsPart v d → Q v s') : wpAny (model g.prog g.w) A (evalPart e env) Q NoE s := by
  cases e with
  | none =>
    cases d with
    | none => exact wpAny_pure (k _ s st (.refl st.wd) hf .none)
    | some => exact H.elim
  | some e =>
    cases d with
    | none => exact H.elim
    | some i =>
      refine Ev.use (d := .int i) H hA st hf fun v s' a b c d => k v s' a b c ?_
      obtain ⟨t, rfl⟩ := d.int_inv
      exact .int i t

theorem evl_slice {lower upper : Option Expr} {lo hi : Option Int} (hv : Ev g n X₀ X env ρ value (.list ds)) (hl : EvP g n X₀ X env ρ lower lo) (hu : EvP g n X₀ X env ρ upper hi) (h2 : ds.length ≤ sizeLine)
    {ds' : List PyData} (hp : ∀ (h : Heap) (vs : List Value), RdAll X h vs ds → RdAll X h (slicePick vs.toArray lo hi none).toList ds') : EvL g n X₀ X env ρ (.Subscript value (.Slice lower upper none p) pos) ds' := .mk fun A s hA hw hf => by
  refine Subscript_ (hv.use hA (.refl hw) hf fun v s1 st _ hf1 r1 => wpAny_Slice (hl.use hA st hf1 fun vl s2 st2 st21 hf2 r2 => hu.use hA st2 hf2 fun vu s3 st3 st32 hf3 r3 => wpAny_pure ?_))
  obtain ⟨a, vs, k, rfl, hax, ho, ra⟩ := (Rd.step hf.T (st21.trans st32) r1).list_inv
  have st4 := st3.push g.ok { cls := .type "slice", data := .fields #[vl, vu, .none] }
  have ho' : (s3.heap.push { cls := .type "slice", data := .fields #[vl, vu, .none] }).get? a = some (lstObj vs k) := Heap.get?_push_of_some _ ho
  have ra' : RdAll X (s3.heap.push { cls := .type "slice", data := .fields #[vl, vu, .none] }) vs ds := ra.mono fun b o hb e => ⟨hb, Heap.get?_push_of_some _ e⟩
  have hlen : vs.length = ds.length := ra.length
  refine tail_any (ops := [_, _]) (isList_of ho').typeIs slot_list_getitem.lookup (wpAny_getItem_list_slice (isList_of ho') ⟨_, Heap.get?_push_size _ rfl, rfl, rfl⟩ r2 r3 .none (by simp) ?_ (by simp [hlen, h2])) rfl
  have st5 := st4.push g.ok { cls := .type "list", data := .seq (slicePick vs.toArray lo hi none) }
  refine ⟨st5, _, (slicePick vs.toArray lo hi none).toList, 0, rfl, ?_, st4.free g.ok (st4.wd.sz g.ok) (get_size _), ?_, ?_⟩
  · exact st4.wd.sz g.ok
  · rw [show lstObj (slicePick vs.toArray lo hi none).toList 0 = { cls := .type "list", data := .seq (slicePick vs.toArray lo hi none) } by simp [lstObj]]
    exact Heap.get?_push_size _ rfl
  · exact rdAll_fresh (Nat.le_refl _) (fun b o e => Heap.get?_push_of_some _ e) (hp _ _ ra')
theorem EvL.upto {upper : Expr} {k : Nat} (hv : Ev g n X₀ X env ρ value (.list ds)) (hu : Ev g n X₀ X env ρ upper (.int k)) (h2 : ds.length ≤ sizeLine) : EvL g n X₀ X env ρ (.Subscript value (.Slice none (some upper) none p) pos) (ds.take k) :=
  evl_slice (lower := none) (upper := some upper) (lo := none) (hi := some (k : Int)) hv trivial hu h2 fun h vs r => by rw [slicePick_upto']; simpa using r.take k
theorem EvL.from {lower : Expr} {k : Nat} (hv : Ev g n X₀ X env ρ value (.list ds)) (hu : Ev g n X₀ X env ρ lower (.int k)) (h2 : ds.length ≤ sizeLine) : EvL g n X₀ X env ρ (.Subscript value (.Slice (some lower) none none p) pos) (ds.drop k) :=
  evl_slice (lower := some lower) (upper := none) (lo := some (k : Int)) (hi := none) hv hu trivial h2 fun h vs r => by rw [slicePick_from']; simpa using r.drop k
end
end Mine
set_option Elab.async false
set_option maxRecDepth 100000
set_option linter.unusedVariables false
set_option tactic.hygienic false
namespace Mine
open PySem PyProof.Rows

theorem foldl_toList (k : Nat) (items : Array Value) : (List.foldl (fun x1 x2 => x1 ++ x2) #[] (List.replicate k items)).toList = (List.replicate k items.toList).flatten := by
  have : ∀ (l : List (Array Value)) (acc : Array Value), (List.foldl (fun x1 x2 => x1 ++ x2) acc l).toList = acc.toList ++ (l.map Array.toList).flatten := by
    intro l
    induction l with
    | nil => intro acc; simp
    | cons a l ih => intro acc; rw [List.foldl_cons, ih]; simp
  rw [this]; simp

theorem mulL {prog : Program} {w : World} {A : Around} {E : Value → Shared → Prop} {s : Shared} {l : Addr} {items : Array Value} {k : Nat} {x : Int} {u : Tok} {Q : Value → Shared → Prop}
    (hl : s.heap.get? l = some { cls := .type "list", dict := none, data := .seq items k, slots := #[] }) (hlo : -(2 ^ 63 : Int) ≤ x) (hhi : x < 2 ^ 63) (hsz : items.size * x.toNat ≤ 2 ^ 24)
    (h : Q (.ref s.heap.objs.size) { s with heap := s.heap.push { cls := .type "list", data := .seq (List.foldl (fun x1 x2 => x1 ++ x2) #[] (List.replicate (if items.isEmpty = true then 0 else x.toNat) items)) } }) :
    wpAny (model prog w) A (binaryOp .Mult (.ref l) (.int x u)) Q E s :=
  wpAny_binaryOp_repeat_ref (T := "list") (U := "int") (by decide) ⟨_, hl, rfl⟩ (fun s' => typeIs_int s' x u) noFill_list_mul F.fills_int_mul F.slot_int_rmul repeat_list F.slot_int_index.lookup
    (call_meets F.slot_int_rmul (typeIs_int s x u) F.entry_int_rmul (F.args_int_rmul_2 _ _) (int___rmul___int_list x u l items k)
      ⟨hl, rfl, ⟨_, hl, rfl⟩, call_meets F.slot_list_mul ⟨_, hl, rfl⟩ F.entry_list_mul (F.args_list_mul_2 _ _)
        (AutoListH.list___mul___list_int_3 l items k x u (by simp [Builtin.List.listFitsIndex]; lia) (by lia) (by simp [Builtin.List.listTooLong, sizeLine]; lia)) ⟨hl, h⟩⟩)

section
variable {g : G} {n : Nat} {X₀ X : List Addr} {env : Env} {ρ : Rho} {e l r value slice : Expr} {a b d : PyData} {pos p : Pos} {c : Bool} {es : List Expr} {ds ds' : List PyData} {i : Int}

/-- a fresh list pushed -/
theorem evl_push {s s1 : Shared} (st : Step g.W s s1) (hf1 : Fok g.W X₀ X env s1.heap ρ) {vs : List Value} {k : Nat} (r : RdAll X s1.heap vs ds) {o : Obj} (ho : o = lstObj vs k) :
    Step g.W s { s1 with heap := s1.heap.push o } ∧ ∃ a vs k, Value.ref s1.heap.objs.size = .ref a ∧ g.W.n₀ ≤ a ∧ s.heap.get? a = none ∧ (s1.heap.push o).get? a = some (lstObj vs k) ∧ RdAll (a :: X) (s1.heap.push o) vs ds := by
  subst ho
  exact ⟨st.push g.ok _, _, vs, k, rfl, st.wd.sz g.ok, st.free g.ok (st.wd.sz g.ok) (get_size _), Heap.get?_push_size _ rfl, rdAll_fresh (Nat.le_refl _) (fun b o e => Heap.get?_push_of_some _ e) r⟩

theorem EvL.add (hl : Ev g n X₀ X env ρ l (.list ds)) (hr : Ev g n X₀ X env ρ r (.list ds')) (hz : ds.length + ds'.length ≤ sizeLine) : EvL g n X₀ X env ρ (.BinOp l .Add r pos) (ds ++ ds') := .mk fun A s hA hw hf => by
  refine wpAny_BinOp (hl.use hA (.refl hw) hf fun v s1 _ st hf1 r1 => hr.use hA st hf1 fun u s2 st2 st21 hf2 r2 => ?_)
  obtain ⟨a, vs, k, rfl, _, ho, ra⟩ := (Rd.step hf.T st21 r1).list_inv
  obtain ⟨b, ws, k', rfl, _, ho', rb⟩ := r2.list_inv
  exact P.add_list ho ho' (evl_push st2 hf2 (ra.append rb) (k := 0) (by simp [lstObj])) (by simp [ra.length, rb.length, hz])
theorem EvL.mul {k : Nat} (hl : Ev g n X₀ X env ρ l (.list ds)) (hr : Ev g n X₀ X env ρ r (.int k)) (hk : k ≤ 64) (hz : ds.length * k ≤ 2 ^ 24) : EvL g n X₀ X env ρ (.BinOp l .Mult r pos) (List.replicate k ds).flatten := .mk fun A s hA hw hf => by
  refine wpAny_BinOp (hl.use hA (.refl hw) hf fun v s1 _ st hf1 r1 => hr.use hA st hf1 fun u s2 st2 st21 hf2 r2 => ?_)
  obtain ⟨a, vs, m, rfl, _, ho, ra⟩ := (Rd.step hf.T st21 r1).list_inv
  obtain ⟨t, rfl⟩ := r2.int_inv
  have hlen := ra.length
  have hz' : vs.toArray.size * (k : Int).toNat ≤ 2 ^ 24 := by simpa [hlen] using hz
  refine mulL ho (by rw [big63]; lia) (by rw [big63]; lia) hz' ?_
  refine evl_push st2 hf2 (vs := (List.replicate k vs).flatten) (k := 0) (ra.rep k) ?_
  unfold lstObj
  congr 2
  apply Array.ext'
  rw [foldl_toList]
  cases vs with
  | nil => simp
  | cons v vs => simp
end
end Mine
set_option Elab.async false
set_option maxRecDepth 100000
set_option linter.unusedVariables false
set_option tactic.hygienic false
namespace Mine
open PySem PyProof.Rows PySem.SeqAt

theorem depth_mem {d : PyData} : ∀ {ds : List PyData}, d ∈ ds → d.depth ≤ PyData.depthAll ds
  | e :: ds, h => by
    rw [PyData.depthAll]
    rcases List.mem_cons.mp h with rfl | h
    · lia
    · have := depth_mem h; lia

mutual
/-- no dict within -/
noncomputable def nod : PyData → Bool
  | .dict _ => false
  | .list xs => nodA xs
  | .tuple xs => nodA xs
  | .none => true
  | .bool _ => true
  | .int _ => true
  | .str _ => true
noncomputable def nodA : List PyData → Bool
  | [] => true
  | d :: ds => nod d && nodA ds
end
theorem nod_mem {d : PyData} : ∀ {ds : List PyData}, nodA ds = true → d ∈ ds → nod d = true
  | e :: ds, hn, h => by
    rw [nodA, Bool.and_eq_true] at hn
    rcases List.mem_cons.mp h with rfl | h
    · exact hn.1
    · exact nod_mem hn.2 h

theorem isTuple_of {h : Heap} {a : Addr} {vs : List Value} {n : Nat} (e : h.get? a = some (tupObj vs n)) : h.IsTuple a vs.toArray := ⟨_, e, rfl, n, rfl⟩
theorem all_true (n : Nat) : (List.range n).all (fun _ => true) = true := by simp

theorem rd_elems {X X' : List Addr} {h : Heap} {vs ws : List Value} {ds : List PyData} {P : Value → Value → Prop} (ra : RdAll X h vs ds) (rb : RdAll X' h ws ds) (hP : ∀ d ∈ ds, ∀ x y, Rd X h x d → Rd X' h y d → P x y)
    (j : Nat) (h1 : j < vs.toArray.size) (h2 : j < ws.toArray.size) : P vs.toArray[j] ws.toArray[j] := by
  have hj : j < ds.length := ra.length ▸ h1
  obtain ⟨x, hx, rx⟩ := ra.get (List.getElem?_eq_getElem hj)
  obtain ⟨y, hy, ry⟩ := rb.get (List.getElem?_eq_getElem hj)
  have e1 : vs.toArray[j] = x := (List.getElem?_eq_some_iff.mp hx).2
  have e2 : ws.toArray[j] = y := (List.getElem?_eq_some_iff.mp hy).2
  rw [e1, e2]
  exact hP _ (List.getElem_mem hj) x y rx ry
theorem rd_sizes {X X' : List Addr} {h : Heap} {vs ws : List Value} {ds : List PyData} (ra : RdAll X h vs ds) (rb : RdAll X' h ws ds) : vs.toArray.size = ws.toArray.size := ra.length.trans rb.length.symm
theorem eqAt_rd {X X' : List Addr} {s : Shared} (k : Nat) : ∀ (d : PyData) (A : Around) (v u : Value), d.depth ≤ k → A.units + k < cLine → nod d = true → Rd X s.heap v d → Rd X' s.heap u d → EqAt A s v u true := by
  induction k with
  | zero =>
    intro d A v u hk hA hnd r1 r2
    cases d with
    | none => rw [r1.none_inv, r2.none_inv]; exact EqAt.same _
    | bool b => rw [r1.bool_inv, r2.bool_inv]; exact EqAt.same _
    | int i =>
      obtain ⟨t, rfl⟩ := r1.int_inv; obtain ⟨t', rfl⟩ := r2.int_inv
      exact decide_eq_true (rfl : i = i) ▸ EqAt.int_int (A := A) (s := s) i t i t'
    | str i =>
      obtain ⟨t, rfl⟩ := r1.str_inv; obtain ⟨t', rfl⟩ := r2.str_inv
      exact decide_eq_true (rfl : i = i) ▸ EqAt.str_str (A := A) (s := s) i t i t'
    | dict kvs => rw [nod] at hnd; cases hnd
    | list ds => rw [PyData.depth] at hk; cases Nat.eq_zero_of_le_zero hk
    | tuple ds => rw [PyData.depth] at hk; cases Nat.eq_zero_of_le_zero hk
  | succ k ih =>
    intro d A v u hk hA hnd r1 r2
    have hA1 : A.units + 1 + k < cLine := by rw [Nat.add_right_comm]; exact hA
    cases d with
    | none => rw [r1.none_inv, r2.none_inv]; exact EqAt.same _
    | bool b => rw [r1.bool_inv, r2.bool_inv]; exact EqAt.same _
    | int i =>
      obtain ⟨t, rfl⟩ := r1.int_inv; obtain ⟨t', rfl⟩ := r2.int_inv
      exact decide_eq_true (rfl : i = i) ▸ EqAt.int_int (A := A) (s := s) i t i t'
    | str i =>
      obtain ⟨t, rfl⟩ := r1.str_inv; obtain ⟨t', rfl⟩ := r2.str_inv
      exact decide_eq_true (rfl : i = i) ▸ EqAt.str_str (A := A) (s := s) i t i t'
    | dict kvs => rw [nod] at hnd; cases hnd
    | list ds =>
      obtain ⟨a, vs, m, rfl, _, ho, ra⟩ := r1.list_inv
      obtain ⟨b, ws, m', rfl, _, ho', rb⟩ := r2.list_inv
      rw [PyData.depth] at hk
      by_cases hab : a = b
      · subst hab; exact EqAt.same _
      · refine EqAt.of_refs hab (all_true _ ▸ RcAt.lists (A := A) (e := fun _ => true) (isList_of ho) (isList_of ho') (rd_sizes ra rb) (Nat.lt_of_le_of_lt (Nat.le_add_right _ _) hA) (rd_elems ra rb fun d hd x y rx ry => ih d _ x y (Nat.le_trans (depth_mem hd) (Nat.le_of_succ_le_succ hk)) hA1 (by rw [nod] at hnd; exact nod_mem hnd hd) rx ry))
    | tuple ds =>
      obtain ⟨a, vs, m, rfl, _, ho, ra⟩ := r1.tuple_inv
      obtain ⟨b, ws, m', rfl, _, ho', rb⟩ := r2.tuple_inv
      rw [PyData.depth] at hk
      by_cases hab : a = b
      · subst hab; exact EqAt.same _
      · refine EqAt.of_refs hab ?_
        have := RcAt.tuples (A := A) (e := fun _ => true) (isTuple_of ho) (isTuple_of ho') (Nat.lt_of_le_of_lt (Nat.le_add_right _ _) hA) (rd_elems ra rb fun d hd x y rx ry => ih d _ x y (Nat.le_trans (depth_mem hd) (Nat.le_of_succ_le_succ hk)) hA1 (by rw [nod] at hnd; exact nod_mem hnd hd) rx ry)
        rw [all_true, Bool.true_and, show (vs.toArray.size == ws.toArray.size) = true from beq_iff_eq.mpr (rd_sizes ra rb)] at this
        exact this

section
variable {g : G} {n : Nat} {i : Int} {x : Str} {d : PyData} {ds : List PyData}
/-- not equal: never, of the same datum -/
theorem cmp_neq_same (hd : d.depth ≤ 60) (hnd : nod d = true) : CmpB g n .NotEq d d false := fun X A s v u hA hw hx r1 r2 => by
  have hu := hA.units
  have hu61 : A.units + 1 + 60 < cLine := Nat.lt_of_le_of_lt (show A.units + 61 ≤ A.units + 64 from Nat.add_le_add_left (by decide) _) hu
  have fin : RcNeAt A s v u false → wpAny (model g.prog g.w) A (compareOp .NotEq v u) (fun v s' => Step g.W s s' ∧ v = .bool false) NoE s := fun h => h g.prog g.w NoE _ ⟨.refl hw, rfl⟩
  apply fin
  cases d with
  | none => rw [r1.none_inv, r2.none_inv]; exact RcNeAt.none_none
  | bool b => rw [r1.bool_inv, r2.bool_inv]; simpa using RcNeAt.bool_bool (A := A) (s := s) b b
  | int i =>
    obtain ⟨t, rfl⟩ := r1.int_inv; obtain ⟨t', rfl⟩ := r2.int_inv
    simpa using RcNeAt.int_int (A := A) (s := s) i t i t'
  | str i =>
    obtain ⟨t, rfl⟩ := r1.str_inv; obtain ⟨t', rfl⟩ := r2.str_inv
    simpa using RcNeAt.str_str (A := A) (s := s) i t i t'
  | dict kvs => rw [nod] at hnd; cases hnd
  | list ds =>
    obtain ⟨a, vs, m, rfl, _, ho, ra⟩ := r1.list_inv
    obtain ⟨b, ws, m', rfl, _, ho', rb⟩ := r2.list_inv
    rw [PyData.depth] at hd
    have hd' : PyData.depthAll ds ≤ 60 := Nat.le_trans (Nat.le_succ _) hd
    have := RcNeAt.lists (A := A) (e := fun _ => true) (isList_of ho) (isList_of ho') (rd_sizes ra rb) (Nat.lt_of_le_of_lt (Nat.le_add_right _ 64) hu) (rd_elems ra rb fun d hd x y rx ry => eqAt_rd 60 d _ x y (Nat.le_trans (depth_mem hd) hd') hu61 (by rw [nod] at hnd; exact nod_mem hnd hd) rx ry)
    rw [all_true] at this
    exact this
  | tuple ds =>
    obtain ⟨a, vs, m, rfl, _, ho, ra⟩ := r1.tuple_inv
    obtain ⟨b, ws, m', rfl, _, ho', rb⟩ := r2.tuple_inv
    rw [PyData.depth] at hd
    have hd' : PyData.depthAll ds ≤ 60 := Nat.le_trans (Nat.le_succ _) hd
    have := RcNeAt.tuples (A := A) (e := fun _ => true) (isTuple_of ho) (isTuple_of ho') (Nat.lt_of_le_of_lt (Nat.le_add_right _ 64) hu) (rd_elems ra rb fun d hd x y rx ry => eqAt_rd 60 d _ x y (Nat.le_trans (depth_mem hd) hd') hu61 (by rw [nod] at hnd; exact nod_mem hnd hd) rx ry)
    rw [all_true, Bool.true_and, show (vs.toArray.size == ws.toArray.size) = true from beq_iff_eq.mpr (rd_sizes ra rb)] at this
    exact this

/-- strs -/
noncomputable def strD (xs : List Str) : List PyData := xs.map .str
noncomputable def intD (xs : List Int) : List PyData := xs.map .int
noncomputable def valStr (x : Str) : Value → Bool
  | .str y _ => y == x
  | _ => false
theorem any_str {X : List Addr} {h : Heap} {xs : List Str} : ∀ {vs : List Value}, RdAll X h vs (strD xs) → (∀ v ∈ vs, ∃ y t, v = .str y t) ∧ vs.any (valStr x) = xs.contains x := by
  induction xs with
  | nil => intro vs r; cases r; exact ⟨(fun _ h => nomatch h), rfl⟩
  | cons y xs ih =>
    intro vs r
    cases r with
    | cons a b =>
      obtain ⟨t, rfl⟩ := a.str_inv
      obtain ⟨h1, h2⟩ := ih b
      refine ⟨fun v hv => ?_, ?_⟩
      · rcases List.mem_cons.mp hv with rfl | hv
        · exact ⟨y, t, rfl⟩
        · exact h1 v hv
      · rw [List.any_cons, h2, List.contains_cons]
        show (y == x || _) = _
        rw [Bool.beq_comm]
theorem cmp_inSL {xs : List Str} : CmpB g n .In (.str x) (.list (strD xs)) (xs.contains x) := fun X A s v u hA hw hx r1 r2 => by
  obtain ⟨t, rfl⟩ := r1.str_inv
  obtain ⟨a, vs, m, rfl, _, ho, ra⟩ := r2.list_inv
  obtain ⟨h1, h2⟩ := any_str (x := x) ra
  refine in_listAt (valStr x) (isList_of ho) (fun y hy => ?_) ⟨.refl hw, by simpa using h2⟩
  obtain ⟨y, t', rfl⟩ := h1 y (by simpa using hy)
  exact EqAt.str_str y t' x t
theorem cmp_inST {xs : List Str} : CmpB g n .In (.str x) (.tuple (strD xs)) (xs.contains x) := fun X A s v u hA hw hx r1 r2 => by
  obtain ⟨t, rfl⟩ := r1.str_inv
  obtain ⟨a, vs, m, rfl, _, ho, ra⟩ := r2.tuple_inv
  obtain ⟨h1, h2⟩ := any_str (x := x) ra
  refine in_tupleAt (valStr x) (isTuple_of ho) (fun y hy => ?_) ⟨.refl hw, by simpa using h2⟩
  obtain ⟨y, t', rfl⟩ := h1 y (by simpa using hy)
  exact EqAt.str_str y t' x t
noncomputable def valInt (x : Int) : Value → Bool
  | .int y _ => y == x
  | _ => false
theorem any_int {X : List Addr} {h : Heap} {xs : List Int} : ∀ {vs : List Value}, RdAll X h vs (intD xs) → (∀ v ∈ vs, ∃ y t, v = .int y t) ∧ vs.any (valInt i) = xs.contains i := by
  induction xs with
  | nil => intro vs r; cases r; exact ⟨(fun _ h => nomatch h), rfl⟩
  | cons y xs ih =>
    intro vs r
    cases r with
    | cons a b =>
      obtain ⟨t, rfl⟩ := a.int_inv
      obtain ⟨h1, h2⟩ := ih b
      refine ⟨fun v hv => ?_, ?_⟩
      · rcases List.mem_cons.mp hv with rfl | hv
        · exact ⟨y, t, rfl⟩
        · exact h1 v hv
      · rw [List.any_cons, h2, List.contains_cons]
        show (y == i || _) = _
        rw [Bool.beq_comm]
theorem cmp_inIL {xs : List Int} : CmpB g n .In (.int i) (.list (intD xs)) (xs.contains i) := fun X A s v u hA hw hx r1 r2 => by
  obtain ⟨t, rfl⟩ := r1.int_inv
  obtain ⟨a, vs, m, rfl, _, ho, ra⟩ := r2.list_inv
  obtain ⟨h1, h2⟩ := any_int (i := i) ra
  refine in_listAt (valInt i) (isList_of ho) (fun y hy => ?_) ⟨.refl hw, by simpa using h2⟩
  obtain ⟨y, t', rfl⟩ := h1 y (by simpa using hy)
  exact EqAt.int_int y t' i t
end
end Mine
set_option Elab.async false
set_option maxRecDepth 100000
set_option linter.unusedVariables false
set_option tactic.hygienic false
namespace Mine
open PySem PyProof.Rows

inductive Fl where
  | next | brk | cont
  | ret (d : PyData)
noncomputable def FlOk (X : List Addr) (h : Heap) : Flow → Fl → Prop
  | .next, .next => True
  | .brk, .brk => True
  | .cont, .cont => True
  | .ret v, .ret d => Rd X h v d
  | _, _ => False

/-- a step of a statement: of what stood, the frame's own objects alone (X, off X₀) may change -/
structure SS (W : WC) (X₀ X X' : List Addr) (s s' : Shared) : Prop where
  kp : ∀ b o, b ∉ W.T → (b ∈ X → b ∈ X₀) → s.heap.get? b = some o → s'.heap.get? b = some o
  nx : ∀ b ∈ X', b ∈ X ∨ s.heap.get? b = none
  tx : ∀ b ∈ W.T, b ∈ X
  wd : Wd W s'.heap
  gk : GK s.gens s'.gens
  os : (s'.os, s'.drawn) = (s.os, s.drawn)
theorem Step.ss {W : WC} {X₀ X : List Addr} {s s' : Shared} (x : Step W s s') (ht : ∀ b ∈ W.T, b ∈ X) : SS W X₀ X X s s' := ⟨fun b o ht _ e => x.kp b o ht e, fun _ h => .inl h, ht, x.wd, x.gk, x.os⟩
theorem SS.trans {W : WC} {X₀ X X' X'' : List Addr} {a b c : Shared} (x : SS W X₀ X X' a b) (y : SS W X₀ X' X'' b c) : SS W X₀ X X'' a c := by
  refine ⟨fun d o ht hd e => y.kp d o ht (fun hx' => ?_) (x.kp d o ht hd e), fun d hd => ?_, x.tx, y.wd, x.gk.trans y.gk, y.os.trans x.os⟩
  · rcases x.nx d hx' with h | h
    · exact hd h
    · rw [e] at h; cases h
  · rcases y.nx d hd with h | h
    · exact x.nx d h
    · cases e : a.heap.get? d with
      | none => exact .inr rfl
      | some o =>
        by_cases hx : d ∈ X
        · exact .inl hx
        · have := x.kp d o (fun q => hx (x.tx d q)) (fun q => (hx q).elim) e
          rw [this] at h; cases h

structure Ex (g : G) (n : Nat) (X₀ : List Addr) (env : Env) (ρ : Rho) (ss : List Stmt) (P : Fl → Rho → Prop) : Prop where
  mk ::
  run : ∀ X A s, AOK n A → Wd g.W s.heap → Fok g.W X₀ X env s.heap ρ →
    wpAny (model g.prog g.w) A (execs ss env) (fun fl s' => ∃ X' ρ' f, SS g.W X₀ X X' s s' ∧ Fok g.W X₀ X' env s'.heap ρ' ∧ FlOk X' s'.heap fl f ∧ P f ρ') NoE s
structure Ex1 (g : G) (n : Nat) (X₀ : List Addr) (env : Env) (ρ : Rho) (st : Stmt) (P : Fl → Rho → Prop) : Prop where
  mk ::
  run : ∀ X A s, AOK n A → Wd g.W s.heap → Fok g.W X₀ X env s.heap ρ →
    wpAny (model g.prog g.w) A (exec st env) (fun fl s' => ∃ X' ρ' f, SS g.W X₀ X X' s s' ∧ Fok g.W X₀ X' env s'.heap ρ' ∧ FlOk X' s'.heap fl f ∧ P f ρ') NoE s

/-- fewer names -/
noncomputable def Sub (ρ' ρ : Rho) : Prop := ∀ x sl, ρ'.lookup x = some sl → ρ.lookup x = some sl
theorem Fok.sub {W : WC} {X₀ X : List Addr} {env : Env} {h : Heap} {ρ ρ' : Rho} (F : Fok W X₀ X env h ρ) (k : Sub ρ' ρ) : Fok W X₀ X env h ρ' :=
  let ⟨m, hn, hv, hs⟩ := F.ns
  { F with ns := ⟨m, hn, fun x sl hx => hv x sl (k x sl hx), fun x y ds es a b hxy hx hy => hs x y ds es a b hxy (k x _ hx) (k y _ hy)⟩ }
theorem Sub.nil {ρ : Rho} : Sub [] ρ := fun _ _ h => nomatch h
theorem Sub.cons {ρ ρ' : Rho} {x : Str} {sl : VSlot} (h : ρ.lookup x = some sl) (k : Sub ρ' ρ) : Sub ((x, sl) :: ρ') ρ := fun y sl' hy => by
  rw [List.lookup_cons] at hy
  split at hy
  · rename_i e; cases hy; rw [beq_iff_eq.mp e]; exact h
  · exact k y sl' hy

section
variable {g : G} {n : Nat} {X₀ X : List Addr} {env : Env} {ρ ρ' : Rho} {e : Expr} {d : PyData} {ds : List PyData} {pos p : Pos} {P Q : Fl → Rho → Prop} {st : Stmt} {ss : List Stmt}

theorem Ex.nil (h : P .next ρ) : Ex g n X₀ env ρ [] P := .mk fun X A s hA hw hf => wpAny_execs_nil ⟨X, ρ, .next, (Step.refl hw).ss hf.T, hf, trivial, h⟩
theorem Ex.cons (h : Ex1 g n X₀ env ρ st (fun f ρ' => match f with | .next => Ex g n X₀ env ρ' ss P | f => P f ρ')) : Ex g n X₀ env ρ (st :: ss) P := .mk fun X A s hA hw hf => by
  refine wpAny_execs_cons (wpAny_mono (h.run X A s hA hw hf) (fun fl s' ⟨X', ρ', f, ss1, hf', hfl, hp⟩ => ?_) fun _ _ x => x)
  cases fl with
  | next =>
    cases f with
    | next => exact wpAny_mono (hp.run X' A s' hA ss1.wd hf') (fun fl s2 ⟨X2, ρ2, f2, q1, q2, q4, q5⟩ => ⟨X2, ρ2, f2, ss1.trans q1, q2, q4, q5⟩) fun _ _ x => x
    | _ => exact hfl.elim
  | brk => cases f with | brk => exact ⟨X', ρ', _, ss1, hf', hfl, hp⟩ | _ => exact hfl.elim
  | cont => cases f with | cont => exact ⟨X', ρ', _, ss1, hf', hfl, hp⟩ | _ => exact hfl.elim
  | ret v => cases f with | ret d => exact ⟨X', ρ', _, ss1, hf', hfl, hp⟩ | _ => exact hfl.elim
theorem Ex.mono (h : Ex g n X₀ env ρ ss P) (k : ∀ f ρ', P f ρ' → Q f ρ') : Ex g n X₀ env ρ ss Q := .mk fun X A s hA hw hf =>
  wpAny_mono (h.run X A s hA hw hf) (fun fl s' ⟨X', ρ', f, q1, q2, q4, q5⟩ => ⟨X', ρ', f, q1, q2, q4, k _ _ q5⟩) fun _ _ x => x
theorem Ex1.mono (h : Ex1 g n X₀ env ρ st P) (k : ∀ f ρ', P f ρ' → Q f ρ') : Ex1 g n X₀ env ρ st Q := .mk fun X A s hA hw hf =>
  wpAny_mono (h.run X A s hA hw hf) (fun fl s' ⟨X', ρ', f, q1, q2, q4, q5⟩ => ⟨X', ρ', f, q1, q2, q4, k _ _ q5⟩) fun _ _ x => x
theorem Ex.weak (h : Ex g n X₀ env ρ' ss P) (k : Sub ρ' ρ) : Ex g n X₀ env ρ ss P := .mk fun X A s hA hw hf => h.run X A s hA hw (hf.sub k)

theorem Ex1.ret (h : ∀ X, Ev g n X₀ X env ρ e d) (hp : P (.ret d) ρ) : Ex1 g n X₀ env ρ (.Return (some e) pos) P := .mk fun X A s hA hw hf =>
  wpAny_Return_some ((h X).use hA (.refl hw) hf fun v s' st _ hf' r => ⟨X, ρ, .ret d, st.ss hf.T, hf', r, hp⟩)
theorem Ex1.ite {test : Expr} {body orelse : List Stmt} {c : Bool} (ht : ∀ X, Tr g n X₀ X env ρ test c) (h1 : c = true → Ex g n X₀ env ρ body P) (h2 : c = false → Ex g n X₀ env ρ orelse P) : Ex1 g n X₀ env ρ (.If test body orelse pos) P := .mk fun X A s hA hw hf => by
  refine wpAny_If ((ht X).use hA (.refl hw) hf fun s' st _ hf' => ?_)
  have fin : ∀ {b : List Stmt}, Ex g n X₀ env ρ b P → wpAny (model g.prog g.w) A (execs b env) (fun fl s' => ∃ X' ρ' f, SS g.W X₀ X X' s s' ∧ Fok g.W X₀ X' env s'.heap ρ' ∧ FlOk X' s'.heap fl f ∧ P f ρ') NoE s' :=
    fun h => wpAny_mono (h.run X A s' hA st.wd hf') (fun fl s2 ⟨X2, ρ2, f2, q1, q2, q4, q5⟩ => ⟨X2, ρ2, f2, (st.ss hf.T).trans q1, q2, q4, q5⟩) fun _ _ x => x
  cases c with
  | true => exact fin (h1 rfl)
  | false => exact fin (h2 rfl)

/-- one own object changes: L or a cell -/
theorem Rd.but {h h' : Heap} {a : Addr} (ha : a ∈ X) (hs : Heap.SameBut a h h') {v : Value} {d : PyData} (r : Rd X h v d) : Rd X h' v d :=
  r.mono fun b o hb e => ⟨hb, (hs.2 b fun q => hb (q ▸ ha)).trans e⟩
theorem RdAll.but {h h' : Heap} {a : Addr} (ha : a ∈ X) (hs : Heap.SameBut a h h') {v : List Value} {d : List PyData} (r : RdAll X h v d) : RdAll X h' v d :=
  r.mono fun b o hb e => ⟨hb, (hs.2 b fun q => hb (q ▸ ha)).trans e⟩
theorem ss_but {s : Shared} {a : Addr} {h' : Heap} {k : Nat} (hw : Wd g.W s.heap) (F : Fok g.W X₀ X env s.heap ρ) (haX : a ∈ X) (ha : g.W.n₀ ≤ a) (ha0 : a ∉ X₀) (hs : Heap.SameBut a s.heap h') : SS g.W X₀ X X s { s with heap := h', toks := k } :=
  ⟨fun b o _ hb e => (hs.2 b fun q => ha0 (hb (q ▸ haX) |> fun z => q ▸ z)).trans e, fun _ h => .inl h, F.T, hw.keep g.ok fun b o hb e => (hs.2 b (Nat.ne_of_lt (Nat.lt_of_lt_of_le hb ha))).trans e, .refl _, rfl⟩

theorem lookup_own {x y : Str} {sl sl' : VSlot} (h : List.lookup y ((x, sl) :: ρ) = some sl') : (y = x ∧ sl' = sl) ∨ (y ≠ x ∧ ρ.lookup y = some sl') := by
  rw [List.lookup_cons] at h
  split at h
  · rename_i e; cases h; exact .inl ⟨beq_iff_eq.mp e, rfl⟩
  · rename_i e; exact .inr ⟨fun q => by rw [q] at e; simp at e, h⟩

/-- may be stored -/
noncomputable def Kn (env : Env) (x : Str) : Prop := env.kindOf x = some .local ∨ env.kindOf x = some .cell ∧ (env.cells.lookup x).isSome = true ∧ env.func.isSome = true

theorem store {A : Around} {E : Value → Shared → Prop} {s : Shared} {x : Str} {v : Value} {sl : VSlot} {R : Unit → Shared → Prop} (hw : Wd g.W s.heap) (F : Fok g.W X₀ X env s.heap ρ) (hk : Kn env x)
    (hv : SlotOk g.W X₀ X s.heap v sl) (hsep : ∀ m y es a b ds, sl = .own ds → s.heap.Ns env.locals m → v = .ref a → y ≠ x → ρ.lookup y = some (.own es) → At env s.heap m y (.ref b) → a ≠ b)
    (h : ∀ s', SS g.W X₀ X X s s' → Fok g.W X₀ X env s'.heap ((x, sl) :: ρ) → R () s') : wpAny (model g.prog g.w) A (storeName env x v) R E s := by
  obtain ⟨m, hn, hvs, hs⟩ := F.ns
  obtain ⟨oL, eL⟩ := F.live _ F.L.1
  -- where an own list lies
  have slot_but : ∀ {a : Addr} {h' : Heap} {o : Obj}, a ∈ X → Heap.SameBut a s.heap h' → s.heap.get? a = some o → (∀ ws k, o.data ≠ .seq ws k) → ∀ {u : Value} {sl' : VSlot}, SlotOk g.W X₀ X s.heap u sl' → SlotOk g.W X₀ X h' u sl' := by
    intro a h' o ha hb ho hd u sl' hu
    cases sl' with
    | fz d => exact Rd.but ha hb hu
    | own ds =>
      obtain ⟨b, ws, k, e1, e2, e3, e4, e5⟩ := hu
      refine ⟨b, ws, k, e1, e2, e3, (hb.2 b fun q => ?_).trans e4, RdAll.but ha hb e5⟩
      subst q
      rw [ho] at e4; cases e4
      exact hd _ _ rfl
  rcases hk with hk | ⟨hk, hc, hfn⟩
  · refine wpAny_storeName_local hk hn (fun h' hn' hb => ?_) (by rw [F.kind]; rfl)
    obtain ⟨oN, es, ep, eN, dN, _⟩ := hn
    have hnd : ∀ ws k, oN.data ≠ .seq ws k := fun ws k q => by rw [dN] at q; cases q
    have cell_ne : ∀ y c, env.cells.lookup y = some c → c ≠ env.locals := fun y c hy q => by
      obtain ⟨_, _, u, o, eo, du⟩ := F.cells y c hy
      rw [q, eN] at eo; cases eo; rw [dN] at du; cases du
    refine h _ (ss_but hw F F.L.1 F.L.2.1 F.L.2.2 hb) ⟨F.kind, F.X0, F.glob, F.blt, F.T0, fun a ha => ?_, F.hi, F.L, fun y c hy => ?_, F.cown, F.cinj, _, hn', fun y sl' hy => ?_, fun y z ds es' a b hyz hy hz ay az => ?_⟩
    · by_cases q : a = env.locals
      · subst q
        obtain ⟨o', _, _, e', _⟩ := hn'
        exact ⟨o', e'⟩
      · obtain ⟨o, e⟩ := F.live a ha
        exact ⟨o, (hb.2 a q).trans e⟩
    · obtain ⟨c1, c2, u, o, eo, du⟩ := F.cells y c hy
      exact ⟨c1, c2, u, o, (hb.2 c (cell_ne y c hy)).trans eo, du⟩
    · rcases lookup_own hy with ⟨rfl, rfl⟩ | ⟨hne, hy⟩
      · exact ⟨v, .inl ⟨hk, by simp⟩, slot_but F.L.1 hb eN hnd hv⟩
      · obtain ⟨u, au, ku⟩ := hvs y sl' hy
        refine ⟨u, ?_, slot_but F.L.1 hb eN hnd ku⟩
        rcases au with ⟨k1, k2⟩ | ⟨k1, c, k2, k3⟩
        · exact .inl ⟨k1, by simp [hne, k2]⟩
        · exact .inr ⟨k1, c, k2, k3.sameBut hb (cell_ne y c k2)⟩
    · have back : ∀ {y : Str} {a : Addr}, y ≠ x → At env h' (fun z => if z = x then some v else m z) y (.ref a) → At env s.heap m y (.ref a) := by
        intro y a hne ay
        rcases ay with ⟨k1, k2⟩ | ⟨k1, c, k2, o, k3, k4⟩
        · exact .inl ⟨k1, by simpa [hne] using k2⟩
        · exact .inr ⟨k1, c, k2, o, ((hb.2 c (cell_ne y c k2)).symm).trans k3, k4⟩
      have here : ∀ {a : Addr}, At env h' (fun z => if z = x then some v else m z) x (.ref a) → v = .ref a := by
        intro a ay
        rcases ay with ⟨_, k2⟩ | ⟨k1, _⟩
        · simpa using k2
        · rw [hk] at k1; rcases k1 with k1 | k1 <;> cases k1
      have hn0 : s.heap.Ns env.locals m := ⟨oN, es, ep, eN, dN, by assumption⟩
      rcases lookup_own hy with ⟨qy, hsl⟩ | ⟨hne, hy1⟩
      · rcases lookup_own hz with ⟨qz, _⟩ | ⟨hne', hz1⟩
        · exact (hyz (qy.trans qz.symm)).elim
        · exact hsep m z es' a b ds hsl.symm hn0 (here (qy ▸ ay)) hne' hz1 (back hne' az)
      · rcases lookup_own hz with ⟨qz, hsl⟩ | ⟨hne', hz1⟩
        · exact (hsep m y ds b a es' hsl.symm hn0 (here (qz ▸ az)) hne hy1 (back hne ay)).symm
        · exact hs y z ds es' a b hyz hy1 hz1 (back hne ay) (back hne' az)
  · obtain ⟨c, hc⟩ := Option.isSome_iff_exists.mp hc
    obtain ⟨hcX, hcB, u₀, oc, eoc, doc⟩ := F.cells x c hc
    refine wpAny_storeName_cell F.kind hk hc ⟨oc, eoc, doc⟩ (fun h' hcell hb => ?_)
    have hnd : ∀ ws k, oc.data ≠ .seq ws k := fun ws k q => by rw [doc] at q; cases q
    have L_ne : env.locals ≠ c := fun q => by
      obtain ⟨oN, es, ep, eN, dN, _⟩ := hn
      rw [q, eoc] at eN; cases eN; rw [doc] at dN; cases dN
    have cell_ne : ∀ y c', y ≠ x → env.cells.lookup y = some c' → c' ≠ c := fun y c' hne hy q => hne (F.cinj y x c (q ▸ hy) hc)
    refine h _ (ss_but (k := s.toks) hw F hcX hcB (F.cown x c hfn hc) hb) ⟨F.kind, F.X0, F.glob, F.blt, F.T0, fun a ha => ?_, F.hi, F.L, fun y c' hy => ?_, F.cown, F.cinj, m, hn.sameBut hb L_ne, fun y sl' hy => ?_, fun y z ds es' a b hyz hy hz ay az => ?_⟩
    · by_cases q : a = c
      · subst q
        obtain ⟨o', e', _⟩ := hcell
        exact ⟨o', e'⟩
      · obtain ⟨o, e⟩ := F.live a ha
        exact ⟨o, (hb.2 a q).trans e⟩
    · obtain ⟨c1, c2, u, o, eo, du⟩ := F.cells y c' hy
      by_cases q : c' = c
      · subst q; exact ⟨c1, c2, _, hcell⟩
      · exact ⟨c1, c2, u, o, (hb.2 c' q).trans eo, du⟩
    · rcases lookup_own hy with ⟨qy, rfl⟩ | ⟨hne, hy1⟩
      · subst qy
        exact ⟨v, .inr ⟨.inl hk, c, hc, hcell⟩, slot_but hcX hb eoc hnd hv⟩
      · obtain ⟨u, au, ku⟩ := hvs y sl' hy1
        refine ⟨u, ?_, slot_but hcX hb eoc hnd ku⟩
        rcases au with ⟨k1, k2⟩ | ⟨k1, c', k2, k3⟩
        · exact .inl ⟨k1, k2⟩
        · exact .inr ⟨k1, c', k2, k3.sameBut hb (cell_ne y c' hne k2)⟩
    · have back : ∀ {y : Str} {a : Addr}, y ≠ x → At env h' m y (.ref a) → At env s.heap m y (.ref a) := by
        intro y a hne ay
        rcases ay with ⟨k1, k2⟩ | ⟨k1, c', k2, o, k3, k4⟩
        · exact .inl ⟨k1, k2⟩
        · exact .inr ⟨k1, c', k2, o, ((hb.2 c' (cell_ne y c' hne k2)).symm).trans k3, k4⟩
      have here : ∀ {a : Addr}, At env h' m x (.ref a) → v = .ref a := by
        intro a ay
        exact At.same (.inr ⟨.inl hk, c, hc, hcell⟩) ay
      rcases lookup_own hy with ⟨qy, hsl⟩ | ⟨hne, hy1⟩
      · rcases lookup_own hz with ⟨qz, _⟩ | ⟨hne', hz1⟩
        · exact (hyz (qy.trans qz.symm)).elim
        · exact hsep m z es' a b ds hsl.symm hn (here (qy ▸ ay)) hne' hz1 (back hne' az)
      · rcases lookup_own hz with ⟨qz, hsl⟩ | ⟨hne', hz1⟩
        · exact (hsep m y ds b a es' hsl.symm hn (here (qz ▸ az)) hne hy1 (back hne ay)).symm
        · exact hs y z ds es' a b hyz hy1 hz1 (back hne ay) (back hne' az)

theorem Ex1.assign {x : Str} (hk : Kn env x) (h : ∀ X, Ev g n X₀ X env ρ e d) (hp : P .next ((x, .fz d) :: ρ))
    (hs : swapsWith e (some (.Name x p)) pos.line env = pure false := by rfl) : Ex1 g n X₀ env ρ (.Assign [.Name x p] e pos) P := .mk fun X A s hA hw hf =>
  wpAny_Assign_Name ((h X).use hA (.refl hw) hf fun v s' st _ hf' r => store st.wd hf' hk (sl := .fz d) r (fun _ _ _ _ _ _ q => nomatch q) fun s2 ss hf2 => ⟨X, _, .next, (st.ss hf.T).trans ss, hf2, trivial, hp⟩) hs
/-- the frame with a fresh list masked -/
theorem Fok.mask {s s' : Shared} {a : Addr} {vs : List Value} {k : Nat} (hf : Fok g.W X₀ X env s.heap ρ) (st : Step g.W s s') (han : g.W.n₀ ≤ a) (hfree : s.heap.get? a = none) (ho : s'.heap.get? a = some (lstObj vs k)) : Fok g.W X₀ (a :: X) env s'.heap ρ := by
  have hf' := hf.step g.ok st
  have up : ∀ b o, b ∉ X → s.heap.get? b = some o → b ∉ a :: X ∧ s'.heap.get? b = some o := fun b o hb e => ⟨fun hm => (List.mem_cons.mp hm).elim (fun q => by rw [q, hfree] at e; cases e) hb, st.kp b o (hf.X_T hb) e⟩
  obtain ⟨m, hn, hv, hsp⟩ := hf.ns
  obtain ⟨m', hn', hv', hsp'⟩ := hf'.ns
  have hmm : m = m' := funext fun z => by
    have e1 : s'.heap.Ns env.locals m := hn.at' fun o e => st.kp _ o (Fok.hiT g.ok hf.L.2.1) e
    exact e1.agree hn' z
  subst hmm
  refine ⟨hf'.kind, fun b hb => .tail _ (hf'.X0 b hb), hf'.glob, hf'.blt, hf'.T0, fun b hb => ?_, fun b hb => ?_, ⟨.tail _ hf'.L.1, hf'.L.2⟩, fun y c hy => ?_, hf'.cown, hf'.cinj, m, hn', fun y sl hy => ?_, hsp'⟩
  · rcases List.mem_cons.mp hb with rfl | hb
    · exact ⟨_, ho⟩
    · exact hf'.live b hb
  · rcases List.mem_cons.mp hb with rfl | hb
    · exact .inr han
    · exact hf'.hi b hb
  · obtain ⟨c1, c2⟩ := hf'.cells y c hy
    exact ⟨.tail _ c1, c2⟩
  · obtain ⟨u, au, ku⟩ := hv y sl hy
    obtain ⟨u', au', ku'⟩ := hv' y sl hy
    refine ⟨u', au', ?_⟩
    have huu : u = u' := (au.step fun c o hc e => st.kp c o (Fok.hiT g.ok (hf.cells y c hc).2.1) e).same au'
    subst huu
    cases sl with
    | fz d => exact Rd.mono up ku
    | own es =>
      obtain ⟨b, ws, k, e1, e2, e3, e4, e5⟩ := ku
      exact ⟨b, ws, k, e1, .tail _ e2, e3, st.kp b _ (Fok.hiT g.ok e3.1) e4, RdAll.mono up e5⟩
theorem Ex1.assignL {x : Str} (hk : Kn env x) (h : ∀ X, EvL g n X₀ X env ρ e ds) (hp : P .next ((x, .own ds) :: ρ))
    (hs : swapsWith e (some (.Name x p)) pos.line env = pure false := by rfl) : Ex1 g n X₀ env ρ (.Assign [.Name x p] e pos) P := .mk fun X A s hA hw hf => by
  refine wpAny_Assign_Name (wpAny_mono ((h X).run A s hA hw hf) (fun v s' ⟨st, a, vs, k, q, han, hfree, ho, ra⟩ => ?_) fun _ _ x => x) hs
  subst q
  have hf' := hf.step g.ok st
  have haX : a ∉ X := hf.xok.free hfree
  have hfa := hf.mask st han hfree ho
  have sst : SS g.W X₀ X (a :: X) s s' := ⟨fun b o ht _ e => st.kp b o ht e, fun b hb => (List.mem_cons.mp hb).elim (fun q => .inr (q ▸ hfree)) .inl, hf.T, st.wd, st.gk, st.os⟩
  refine store st.wd hfa hk (sl := .own ds) ⟨a, vs, k, rfl, .head _, ⟨han, fun q => haX (hf.X0 a q)⟩, ho, ra⟩ (fun m y es a' b ds' _ hn' q hne hy ab => ?_) fun s2 ss hf2 => ⟨a :: X, _, .next, sst.trans ss, hf2, trivial, hp⟩
  cases q
  rintro rfl
  obtain ⟨m1, v1, hn1, a1, k1⟩ := hf'.load hy
  have hmm : m1 = m := funext fun z => hn1.agree hn' z
  subst hmm
  have := a1.same ab
  subst this
  obtain ⟨b', _, _, e1, e2, _⟩ := k1
  cases e1
  exact haX e2
end
end Mine
set_option Elab.async false
set_option maxRecDepth 100000
set_option linter.unusedVariables false
set_option tactic.hygienic false
namespace Mine
open PySem PyProof.Rows

section
variable {g : G} {n : Nat} {X₀ X : List Addr} {env : Env} {ρ ρ' : Rho} {e : Expr} {d : PyData} {ds : List PyData} {pos p : Pos} {P Q : Fl → Rho → Prop} {st : Stmt} {ss : List Stmt} {x : Str}

/-- an own list stands fast from now on -/
theorem Fok.freeze {h : Heap} (F : Fok g.W X₀ X env h ρ) (hx : ρ.lookup x = some (.own ds)) : ∃ a : Addr, a ∈ X ∧ (g.W.n₀ ≤ a ∧ a ∉ X₀) ∧ Fok g.W X₀ (X.filter (· ≠ a)) env h ((x, .fz (.list ds)) :: ρ) := by
  obtain ⟨m, hn, hv, hs⟩ := F.ns
  obtain ⟨v, av, a, vs, k, rfl, haX, haB, ho, ra⟩ := hv x _ hx
  have inX : ∀ {b : Addr}, b ∈ X.filter (· ≠ a) ↔ b ∈ X ∧ b ≠ a := by intro b; simp
  have haT : a ∉ g.W.T := Fok.hiT g.ok haB.1
  have hLa : env.locals ≠ a := fun q => by
    obtain ⟨o, es, ep, e1, e2, _⟩ := hn
    rw [q, ho] at e1; cases e1; cases e2
  have fewer : ∀ b o, b ∉ X → h.get? b = some o → b ∉ X.filter (· ≠ a) ∧ h.get? b = some o := fun b o hb e => ⟨fun q => hb (inX.mp q).1, e⟩
  refine ⟨a, haX, haB, F.kind, fun b hb => inX.mpr ⟨F.X0 b hb, fun q => haB.2 (q ▸ hb)⟩, F.glob, F.blt, F.T0, fun b hb => F.live b (inX.mp hb).1, fun b hb => F.hi b (inX.mp hb).1, ⟨inX.mpr ⟨F.L.1, hLa⟩, F.L.2⟩, fun y c hy => ?_, F.cown, F.cinj, m, hn, fun y sl hy => ?_, fun y z es fs b c hyz hy hz ay az => ?_⟩
  · obtain ⟨c1, c2, u, o, eo, du⟩ := F.cells y c hy
    refine ⟨inX.mpr ⟨c1, fun q => ?_⟩, c2, u, o, eo, du⟩
    rw [q, ho] at eo; cases eo; cases du
  · rcases lookup_own hy with ⟨qy, rfl⟩ | ⟨hne, hy1⟩
    · subst qy
      exact ⟨_, av, .list (fun q => (inX.mp q).2 rfl) ho (ra.mono fewer)⟩
    · obtain ⟨u, au, ku⟩ := hv y sl hy1
      refine ⟨u, au, ?_⟩
      cases sl with
      | fz d => exact Rd.mono fewer ku
      | own es =>
        obtain ⟨b, ws, k', e1, e2, e3, e4, e5⟩ := ku
        subst e1
        exact ⟨b, ws, k', rfl, inX.mpr ⟨e2, (hs x y ds es a b (Ne.symm hne) hx hy1 av au).symm⟩, e3, e4, e5.mono fewer⟩
  · rcases lookup_own hy with ⟨_, q⟩ | ⟨hne, hy1⟩
    · cases q
    · rcases lookup_own hz with ⟨_, q⟩ | ⟨hne', hz1⟩
      · cases q
      · exact hs y z es fs b c hyz hy1 hz1 ay az

noncomputable def Scalar : PyData → Prop
  | .none | .bool _ | .int _ | .str _ => True
  | _ => False
theorem Rd.scalar {Y : List Addr} {h h' : Heap} {v : Value} (hd : Scalar d) (r : Rd X h v d) : Rd Y h' v d := by
  cases r with
  | none => exact .none
  | bool b => exact .bool b
  | int i t => exact .int i t
  | str i t => exact .str i t
  | list => exact hd.elim
  | tuple => exact hd.elim
  | dict => exact hd.elim

/-- to read an own list, where a plain value comes of it -/
theorem Ev.thaw (hx : ρ.lookup x = some (.own ds)) (hd : Scalar d) (h : ∀ X, Ev g n X₀ X env ((x, .fz (.list ds)) :: ρ) e d) : Ev g n X₀ X env ρ e d := .mk fun A s hA hw hf => by
  obtain ⟨a, _, _, hf'⟩ := hf.freeze hx
  exact wpAny_mono ((h _).run A s hA hw hf') (fun v s' ⟨st, r⟩ => ⟨st, r.scalar hd⟩) fun _ _ x => x
theorem Tr.thaw {c : Bool} (hx : ρ.lookup x = some (.own ds)) (h : ∀ X, Tr g n X₀ X env ((x, .fz (.list ds)) :: ρ) e c) : Tr g n X₀ X env ρ e c := .mk fun A s hA hw hf => by
  obtain ⟨a, _, _, hf'⟩ := hf.freeze hx
  exact (h _).run A s hA hw hf'
/-- an own list stands fast for the rest -/
theorem SS.freeze {s s' : Shared} {a : Addr} {X' : List Addr} (h : SS g.W X₀ (X.filter (· ≠ a)) X' s s') (ha : a ∈ X) : SS g.W X₀ X X' s s' := by
  have sub : ∀ b, b ∈ X.filter (· ≠ a) → b ∈ X := fun b hb => (List.mem_filter.mp hb).1
  exact ⟨fun b o ht hb e => h.kp b o ht (fun q => hb (sub b q)) e, fun b hb => (h.nx b hb).imp (sub b) id, fun b hb => sub b (h.tx b hb), h.wd, h.gk, h.os⟩
theorem Ex.freeze (hx : ρ.lookup x = some (.own ds)) (h : Ex g n X₀ env ((x, .fz (.list ds)) :: ρ) ss P) : Ex g n X₀ env ρ ss P := .mk fun X A s hA hw hf => by
  obtain ⟨a, haX, _, hf'⟩ := hf.freeze hx
  exact wpAny_mono (h.run _ A s hA hw hf') (fun fl s2 ⟨X2, ρ2, f2, q1, q2, q4, q5⟩ => ⟨X2, ρ2, f2, q1.freeze haX, q2, q4, q5⟩) fun _ _ x => x
theorem Ex1.freeze (hx : ρ.lookup x = some (.own ds)) (h : Ex1 g n X₀ env ((x, .fz (.list ds)) :: ρ) st P) : Ex1 g n X₀ env ρ st P := .mk fun X A s hA hw hf => by
  obtain ⟨a, haX, _, hf'⟩ := hf.freeze hx
  exact wpAny_mono (h.run _ A s hA hw hf') (fun fl s2 ⟨X2, ρ2, f2, q1, q2, q4, q5⟩ => ⟨X2, ρ2, f2, q1.freeze haX, q2, q4, q5⟩) fun _ _ x => x

/-- the own list at x turns -/
theorem Fok.grow {s : Shared} {a : Addr} {vs vs' : List Value} {k k' : Nat} {h' : Heap} {ds' : List PyData} (hw : Wd g.W s.heap) (F : Fok g.W X₀ X env s.heap ρ) (hx : ρ.lookup x = some (.own ds)) {m : Str → Option Value} (hn0 : s.heap.Ns env.locals m) (av : At env s.heap m x (.ref a))
    (ho : s.heap.get? a = some (lstObj vs k)) (haX : a ∈ X) (haB : g.W.n₀ ≤ a ∧ a ∉ X₀) (hb : Heap.SameBut a s.heap h') (ho' : h'.get? a = some (lstObj vs' k')) (ra : RdAll X s.heap vs' ds') : Fok g.W X₀ X env h' ((x, .own ds') :: ρ) := by
  obtain ⟨m', hn, hv, hs⟩ := F.ns
  have hmm : m' = m := funext fun z => hn.agree hn0 z
  subst hmm
  have hLa : env.locals ≠ a := fun q => by
    obtain ⟨o, es, ep, e1, e2, _⟩ := hn
    rw [q, ho] at e1; cases e1; cases e2
  have cell_ne : ∀ y c, env.cells.lookup y = some c → c ≠ a := fun y c hy q => by
    obtain ⟨_, _, u, o, eo, du⟩ := F.cells y c hy
    rw [q, ho] at eo; cases eo; cases du
  have back : ∀ {y : Str} {u : Value}, At env h' m' y u → At env s.heap m' y u := by
    intro y u ay
    rcases ay with ⟨k1, k2⟩ | ⟨k1, c, k2, o, k3, k4⟩
    · exact .inl ⟨k1, k2⟩
    · exact .inr ⟨k1, c, k2, o, ((hb.2 c (cell_ne y c k2)).symm).trans k3, k4⟩
  have forth : ∀ {y : Str} {u : Value}, At env s.heap m' y u → At env h' m' y u := by
    intro y u ay
    rcases ay with ⟨k1, k2⟩ | ⟨k1, c, k2, k3⟩
    · exact .inl ⟨k1, k2⟩
    · exact .inr ⟨k1, c, k2, k3.sameBut hb (cell_ne y c k2)⟩
  refine ⟨F.kind, F.X0, F.glob, F.blt, F.T0, fun b hb' => ?_, F.hi, F.L, fun y c hy => ?_, F.cown, F.cinj, m', hn.sameBut hb hLa, fun y sl hy => ?_, fun y z es fs b c hyz hy hz ay az => ?_⟩
  · by_cases q : b = a
    · subst q; exact ⟨_, ho'⟩
    · obtain ⟨o, e⟩ := F.live b hb'
      exact ⟨o, (hb.2 b q).trans e⟩
  · obtain ⟨c1, c2, u, o, eo, du⟩ := F.cells y c hy
    exact ⟨c1, c2, u, o, (hb.2 c (cell_ne y c hy)).trans eo, du⟩
  · rcases lookup_own hy with ⟨qy, rfl⟩ | ⟨hne, hy1⟩
    · subst qy
      exact ⟨_, forth av, a, vs', k', rfl, haX, haB, ho', RdAll.but haX hb ra⟩
    · obtain ⟨u, au, ku⟩ := hv y sl hy1
      refine ⟨u, forth au, ?_⟩
      cases sl with
      | fz d => exact Rd.but haX hb ku
      | own es =>
        obtain ⟨b, ws, k2, e1, e2, e3, e4, e5⟩ := ku
        subst e1
        have hba : b ≠ a := (hs x y ds es a b (Ne.symm hne) hx hy1 av au).symm
        exact ⟨b, ws, k2, rfl, e2, e3, (hb.2 b hba).trans e4, RdAll.but haX hb e5⟩
  · have fix : ∀ {y : Str} {es : List PyData}, List.lookup y ((x, VSlot.own ds') :: ρ) = some (.own es) → ∃ es', ρ.lookup y = some (.own es') := by
      intro y es hy
      rcases lookup_own hy with ⟨qy, _⟩ | ⟨_, hy1⟩
      · exact ⟨ds, qy ▸ hx⟩
      · exact ⟨es, hy1⟩
    obtain ⟨es', hy'⟩ := fix hy
    obtain ⟨fs', hz'⟩ := fix hz
    exact hs y z es' fs' b c hyz hy' hz' (back ay) (back az)
end
end Mine
set_option Elab.async false
set_option maxRecDepth 100000
set_option linter.unusedVariables false
set_option tactic.hygienic false
namespace Mine
open PySem PyProof.Rows

theorem backTo_plain {pos : Pos} {l : List (Bool × Sem Value)} (h : ∀ q ∈ l, q.1 = false) : backTo pos l = l := by
  unfold backTo
  induction l with
  | nil => rfl
  | cons a l ih =>
    obtain ⟨s, t⟩ := a
    have : s = false := h _ (.head _)
    subst this
    rw [List.map_cons, ih fun q hq => h q (.tail _ hq)]
    rfl
theorem evalArgs_es {M : Model} {A : Around} {E : Value → Shared → Prop} {s : Shared} {f : Value} {l : List (Bool × Sem Value)} {Q : Args → Shared → Prop} (hl : ∀ q ∈ l, q.1 = false)
    (h : wpAny M A (spliced l) (fun vs s' => Q ⟨vs, []⟩ s') E s) : wpAny M A (evalArgs f true l []) Q E s := by
  cases l with
  | nil =>
    unfold evalArgs
    show wpAny M A (spliced [] >>= _) Q E s
    refine wpAny_bind (wpAny_mono h (fun vs s' h' => ?_) fun _ _ x => x)
    refine wpAny_holding ?_
    exact wpAny_bind (wpAny_pure (wpAny_bind (wpAny_pure (wpAny_pure h'))))
  | cons a l =>
    obtain ⟨s', t⟩ := a
    have : s' = false := hl _ (.head _)
    subst this
    exact Calls.evalArgs_plain h

section
variable {g : G} {n : Nat} {X₀ X : List Addr} {env : Env} {ρ ρ' : Rho} {e o : Expr} {es : List Expr} {a d : PyData} {ds ds' : List PyData} {pos p apos : Pos} {x f : Str} {v : Value}

theorem EvA.any (h : EvA g n X₀ X env ρ es ds) {pos : Pos} : (backTo pos (starEach es env)).any (·.1) = false := by
  rw [backTo_plain h.ns]
  exact List.any_eq_false.mpr fun q hq => by rw [h.ns q hq]; simp
/-- the arguments, then the call -/
theorem EvA.args (h : EvA g n X₀ X env ρ es ds) {pos : Pos} {A : Around} {s s₀ : Shared} (hA : AOK n A) (st : Step g.W s₀ s) (hf : Fok g.W X₀ X env s.heap ρ) {Q : Args → Shared → Prop}
    (k : ∀ vs s', Step g.W s₀ s' → Step g.W s s' → Fok g.W X₀ X env s'.heap ρ → RdAll X s'.heap vs ds → Q ⟨vs, []⟩ s') : wpAny (model g.prog g.w) A (evalArgs v true (backTo pos (starEach es env)) []) Q NoE s := by
  have hp := h.ns
  have := h.use (pos := pos) hA st hf (Q := fun vs s' => Q ⟨vs, []⟩ s') k
  rw [backTo_plain hp] at this ⊢
  exact evalArgs_es hp this

/-- a fresh list as a call's answer -/
noncomputable def CallsL (g : G) (n : Nat) (f : Value) (ds : List PyData) (ds' : List PyData) : Prop :=
  ∀ X A s vs, AOK n A → Wd g.W s.heap → XOK g.W X s.heap → RdAll X s.heap vs ds →
    wpAny (model g.prog g.w) A (call f vs []) (fun v s' => Step g.W s s' ∧ ∃ a ws k, v = .ref a ∧ s.heap.objs.size ≤ a ∧ s'.heap.get? a = some (lstObj ws k) ∧ RdAll (a :: X) s'.heap ws ds') NoE s

theorem glob_load {M : Model} {A : Around} {E : Value → Shared → Prop} {s : Shared} {Q : Value → Shared → Prop} (hw : Wd g.W s.heap) (hf : Fok g.W X₀ X env s.heap ρ) (hk : env.kindOf f = some .globalImplicit) (hg : g.W.mg f = some v) (h : Q v s)
    (hd : (f == ("__debug__" : Str)) = false) : wpAny M A (eval (.Name f p) env) Q E s :=
  Calls.Name_function_global hf.kind hk (Calls.loadGlobal_global (hf.glob ▸ hw.g) hg h) hd
theorem blt_load {M : Model} {A : Around} {E : Value → Shared → Prop} {s : Shared} {Q : Value → Shared → Prop} (hw : Wd g.W s.heap) (hf : Fok g.W X₀ X env s.heap ρ) (hk : env.kindOf f = some .globalImplicit) (hg : g.W.mg f = Option.none) (hb : g.W.mb f = some v) (h : Q v s)
    (hd : (f == ("__debug__" : Str)) = false) : wpAny M A (eval (.Name f p) env) Q E s :=
  Calls.Name_function_global hf.kind hk (Calls.loadGlobal_builtin (hf.glob ▸ hw.g) hg (hf.blt ▸ hw.b) hb h) hd

theorem Ev.callF {b : Addr} {ob : Obj} {fd : FuncData} (hk : env.kindOf f = some .globalImplicit) (hg : g.W.mg f = some (.ref b)) (hK : (b, ob) ∈ g.W.K) (hfd : ob.data = .func fd) (ha : EvA g n X₀ X env ρ es ds) (hc : Calls g n (.ref b) ds d)
    (hd : (f == ("__debug__" : Str)) = false := by decide) : Ev g n X₀ X env ρ (.Call (.Name f p) es [] pos) d := .mk fun A s hA hw hf => by
  refine wpAny_Call_NameR (glob_load hw hf hk hg (Calls.callWith_function (o := ob) (fd := fd) (ha.args hA (.refl hw) hf fun vs s' st _ hf' r => ⟨⟨st.wd.k _ hK, hfd⟩, ?_⟩)) hd)
  exact wpAny_mono (hc X A s' vs hA st.wd hf'.xok r) (fun v s2 ⟨a, b⟩ => ⟨st.trans a, b⟩) fun _ _ x => x
theorem Ev.callB {id : String} (hk : env.kindOf f = some .globalImplicit) (hg : g.W.mg f = Option.none) (hb : g.W.mb f = some (.builtin id)) (ha : EvA g n X₀ X env ρ es ds) (hc : Calls g n (.builtin id) ds d)
    (hd : (f == ("__debug__" : Str)) = false := by decide) : Ev g n X₀ X env ρ (.Call (.Name f p) es [] pos) d := .mk fun A s hA hw hf => by
  refine wpAny_Call_NameR (blt_load hw hf hk hg hb (Calls.callWith_builtin ha.any (ha.args hA (.refl hw) hf fun vs s' st _ hf' r => ?_)) hd)
  exact wpAny_mono (hc X A s' vs hA st.wd hf'.xok r) (fun v s2 ⟨a, b⟩ => ⟨st.trans a, b⟩) fun _ _ x => x
theorem Ev.callT {T : String} (hk : env.kindOf f = some .globalImplicit) (hg : g.W.mg f = Option.none) (hb : g.W.mb f = some (.type T)) (ha : EvA g n X₀ X env ρ es ds) (hc : Calls g n (.type T) ds d)
    (hd : (f == ("__debug__" : Str)) = false := by decide) : Ev g n X₀ X env ρ (.Call (.Name f p) es [] pos) d := .mk fun A s hA hw hf => by
  refine wpAny_Call_NameR (blt_load hw hf hk hg hb (PySem.callWith_type ha.any (ha.args hA (.refl hw) hf fun vs s' st _ hf' r => ?_)) hd)
  exact wpAny_mono (hc X A s' vs hA st.wd hf'.xok r) (fun v s2 ⟨a, b⟩ => ⟨st.trans a, b⟩) fun _ _ x => x

/-- of which built-in type -/
noncomputable def tyOf : PyData → String
  | .none => "NoneType" | .bool _ => "bool" | .int _ => "int" | .str _ => "str" | .list _ => "list" | .tuple _ => "tuple" | .dict _ => "dict"
theorem Rd.type {s : Shared} (r : Rd X s.heap v a) : s.TypeIs v (tyOf a) ∧ ∀ b, v = .ref b → ∃ ob, s.heap.get? b = some ob ∧ ob.dict = Option.none := by
  cases r with
  | none => exact ⟨PySem.typeIs_none s, fun _ e => nomatch e⟩
  | bool b => exact ⟨PySem.typeIs_bool s b, fun _ e => nomatch e⟩
  | int i t => exact ⟨typeIs_int s i t, fun _ e => nomatch e⟩
  | str i t => exact ⟨typeIs_str s i t, fun _ e => nomatch e⟩
  | list _ e _ => exact ⟨⟨_, e, rfl⟩, fun b q => by cases q; exact ⟨_, e, rfl⟩⟩
  | tuple _ e _ => exact ⟨⟨_, e, rfl⟩, fun b q => by cases q; exact ⟨_, e, rfl⟩⟩
  | dict _ _ e r =>
    obtain ⟨_, _, _, ⟨_, _, ⟨hc, hdn, _⟩, _⟩, _⟩ := r
    exact ⟨⟨_, e, hc⟩, fun b q => by cases q; exact ⟨_, e, hdn⟩⟩

theorem few_of (h : EvA g n X₀ X env ρ es ds) (hl : es.length < 30) : ((backTo pos (starEach es env)).all (fun x => !x.1) && (backToKw pos (keywordEach [] env)).all (fun x => x.1.isSome)
      && decide (es.length + ([] : List Keyword).length + (if ([] : List Keyword).isEmpty then 0 else 1) < 30)) = true := by
  rw [backTo_plain h.ns]
  have h1 : (starEach es env).all (fun x => !x.1) = true := List.all_eq_true.mpr fun q hq => by rw [h.ns q hq]; rfl
  rw [h1]
  have h2 : (backToKw pos (keywordEach [] env)).all (fun x => x.1.isSome) = true := rfl
  rw [h2]
  simpa using hl

theorem Ev.meth {name : Str} {id : String} (ho : Ev g n X₀ X env ρ o a) (pa : PlainAttrs (tyOf a)) (slot : Slot (tyOf a) name id) (hty : typeOf (.builtin id) = pure (.type "method_descriptor")) (ha : EvA g n X₀ X env ρ es ds) (hc : Calls g n (.builtin id) (a :: ds) d)
    (hl : es.length < 30 := by decide) (hbase : attributeBase o name env (eval o env) = eval o env := by rfl) (hline : (apos.endLine == pos.line) = true := by rfl) : Ev g n X₀ X env ρ (.Call (.Attribute o name apos) es [] pos) d := .mk fun A s hA hw hf => by
  refine wpAny_Call_method hbase (few_of ha hl) hline pa slot hty (ho.use hA (.refl hw) hf fun ov s1 st _ hf1 r1 => ⟨r1.type.1, r1.type.2, ?_⟩)
  refine Calls.callWith_builtin ha.any (ha.args hA st hf1 fun vs s' st' st1' hf' r => ?_)
  exact wpAny_mono (hc X A s' (ov :: vs) hA st'.wd hf'.xok (.cons (Rd.step hf.T st1' r1) r)) (fun v s2 ⟨a, b⟩ => ⟨st'.trans a, b⟩) fun _ _ x => x
theorem EvL.meth {name : Str} {id : String} (ho : Ev g n X₀ X env ρ o a) (pa : PlainAttrs (tyOf a)) (slot : Slot (tyOf a) name id) (hty : typeOf (.builtin id) = pure (.type "method_descriptor")) (ha : EvA g n X₀ X env ρ es ds) (hc : CallsL g n (.builtin id) (a :: ds) ds')
    (hl : es.length < 30 := by decide) (hbase : attributeBase o name env (eval o env) = eval o env := by rfl) (hline : (apos.endLine == pos.line) = true := by rfl) : EvL g n X₀ X env ρ (.Call (.Attribute o name apos) es [] pos) ds' := .mk fun A s hA hw hf => by
  refine wpAny_Call_method hbase (few_of ha hl) hline pa slot hty (ho.use hA (.refl hw) hf fun ov s1 st _ hf1 r1 => ⟨r1.type.1, r1.type.2, ?_⟩)
  refine Calls.callWith_builtin ha.any (ha.args hA st hf1 fun vs s' st' st1' hf' r => ?_)
  refine wpAny_mono (hc X A s' (ov :: vs) hA st'.wd hf'.xok (.cons (Rd.step hf.T st1' r1) r)) (fun v s2 ⟨a, b, ws, k, e1, e2, e3, e4⟩ => ⟨st'.trans a, b, ws, k, e1, Nat.le_trans (st'.wd.sz g.ok) e2, ?_, e3, e4⟩) fun _ _ x => x
  refine st'.free g.ok (Nat.le_trans (st'.wd.sz g.ok) e2) ?_
  cases q : s'.heap.get? b with
  | none => rfl
  | some ob => exact absurd (Heap.lt_size q) (Nat.not_lt.mpr e2)
theorem CallsL.calls (h : CallsL g n v ds ds') : Calls g n v ds (.list ds') := fun X A s vs hA hw hx r =>
  wpAny_mono (h X A s vs hA hw hx r) (fun u s' ⟨st, a, ws, k, e1, e2, e3, e4⟩ => ⟨st, e1 ▸ .list (hx.fresh e2) e3 (e4.mono fun b o hb e => ⟨fun q => hb (.tail _ q), e⟩)⟩) fun _ _ x => x

/-- data of the top -/
noncomputable def Kd (g : G) (v : Value) (d : PyData) : Prop := ∀ X h, Wd g.W h → XOK g.W X h → Rd X h v d
noncomputable def Kds (g : G) (vs : List Value) (ds : List PyData) : Prop := ∀ X h, Wd g.W h → XOK g.W X h → RdAll X h vs ds
theorem Kds.nil : Kds g [] [] := fun _ _ _ _ => .nil
theorem Kds.cons {vs : List Value} (a : Kd g v d) (b : Kds g vs ds) : Kds g (v :: vs) (d :: ds) := fun X h hw hx => .cons (a X h hw hx) (b X h hw hx)
theorem off_K {b : Addr} {ob : Obj} (hm : (b, ob) ∈ g.W.K) {h : Heap} (hx : XOK g.W X h) : b ∉ X := fun q => by
  have ⟨h1, h2⟩ := g.ok.k _ hm
  rcases hx.hi b q with ht | hg
  · exact h2 ht
  · exact Nat.lt_irrefl _ (Nat.lt_of_lt_of_le h1 hg)
theorem Kd.list {b : Addr} {vs : List Value} {k : Nat} (hm : (b, lstObj vs k) ∈ g.W.K) (r : Kds g vs ds) : Kd g (.ref b) (.list ds) := fun X h hw hx => .list (off_K hm hx) (hw.k _ hm) (r X h hw hx)
theorem Kd.tuple {b : Addr} {vs : List Value} {k : Nat} (hm : (b, tupObj vs k) ∈ g.W.K) (r : Kds g vs ds) : Kd g (.ref b) (.tuple ds) := fun X h hw hx => .tuple (off_K hm hx) (hw.k _ hm) (r X h hw hx)
theorem Kd.str (x : Str) (t : Tok) : Kd g (.str x t) (.str x) := fun _ _ _ _ => .str x t
theorem Kd.int (x : Int) (t : Tok) : Kd g (.int x t) (.int x) := fun _ _ _ _ => .int x t
theorem Ev.glob (hk : env.kindOf f = some .globalImplicit) (hg : g.W.mg f = some v) (hr : Kd g v d) (hd : (f == ("__debug__" : Str)) = false := by decide) : Ev g n X₀ X env ρ (.Name f p) d := .mk fun A s hA hw hf =>
  glob_load hw hf hk hg ⟨.refl hw, hr X _ hw hf.xok⟩ hd
end
end Mine
set_option Elab.async false
set_option maxRecDepth 100000
set_option linter.unusedVariables false
set_option tactic.hygienic false
namespace Mine
open PySem PyProof.Rows

theorem RdAll.one {X : List Addr} {h : Heap} {vs : List Value} {a : PyData} (r : RdAll X h vs [a]) : ∃ v, vs = [v] ∧ Rd X h v a := by
  cases r with
  | cons a b => cases b; exact ⟨_, rfl, a⟩
theorem RdAll.two {X : List Addr} {h : Heap} {vs : List Value} {a b : PyData} (r : RdAll X h vs [a, b]) : ∃ v u, vs = [v, u] ∧ Rd X h v a ∧ Rd X h u b := by
  cases r with
  | cons a b => obtain ⟨u, rfl, r⟩ := b.one; exact ⟨_, _, rfl, a, r⟩
theorem RdAll.three {X : List Addr} {h : Heap} {vs : List Value} {a b c : PyData} (r : RdAll X h vs [a, b, c]) : ∃ v u t, vs = [v, u, t] ∧ Rd X h v a ∧ Rd X h u b ∧ Rd X h t c := by
  cases r with
  | cons a b => obtain ⟨u, t, rfl, r, q⟩ := b.two; exact ⟨_, _, _, rfl, a, r, q⟩

section
variable {g : G} {n : Nat} {x y : Str} {i j : Int} {ds : List PyData} {xs : List Str} {ns : List Int}

theorem c_len_str (h : x.length ≤ sizeLine) : Calls g n (.builtin "len") [.str x] (.int x.length) := fun X A s vs hA hw hx r => by
  obtain ⟨v, rfl, r1⟩ := r.one
  obtain ⟨t, rfl⟩ := r1.str_inv
  have h' : x.length ≤ 16777216 := h
  exact P.len_str (by rw [big63]; lia) ⟨(Step.refl hw).toks, .int ..⟩
theorem c_len_list (h : ds.length ≤ sizeLine) : Calls g n (.builtin "len") [.list ds] (.int ds.length) := fun X A s vs hA hw hx r => by
  obtain ⟨v, rfl, r1⟩ := r.one
  obtain ⟨a, ws, k, rfl, _, ho, ra⟩ := r1.list_inv
  have h' : ds.length ≤ 16777216 := h
  refine Calls.call_len_list (isList_of ho) (by rw [big63]; simp [ra.length]; lia) ⟨(Step.refl hw).toks, ?_⟩
  simpa [ra.length] using Rd.int ..
theorem c_str_int (h : i.natAbs < 10 ^ 4300) : Calls g n (.type "str") [.int i] (.str (toString i)) := fun X A s vs hA hw hx r => by
  obtain ⟨v, rfl, r1⟩ := r.one
  obtain ⟨t, rfl⟩ := r1.int_inv
  exact str_of_int_or hA.hd hw.nd (fun _ => ⟨(Step.refl hw).toks, .str ..⟩) fun h2 => absurd h (Nat.not_lt.mpr h2)
theorem c_min (h : True) : Calls g n (.builtin "min") [.int i, .int j] (.int (if j < i then j else i)) := fun X A s vs hA hw hx r => by
  obtain ⟨v, u, rfl, r1, r2⟩ := r.two
  obtain ⟨t, rfl⟩ := r1.int_inv; obtain ⟨t', rfl⟩ := r2.int_inv
  refine min_two_ints hA.hd fun h' tk hk => ⟨(Step.refl hw).grown g.ok hk, ?_⟩
  split <;> exact .int ..
theorem c_strip (h : x.length ≤ sizeLine) : Calls g n (.builtin "str.strip") [.str x, .str y] (.str (Txt.stripChars x y)) := fun X A s vs hA hw hx r => by
  obtain ⟨v, u, rfl, r1, r2⟩ := r.two
  obtain ⟨t, rfl⟩ := r1.str_inv; obtain ⟨t', rfl⟩ := r2.str_inv
  exact SC.stripChars (fun t' k => ⟨(Step.refl hw).toks, .str ..⟩) h
theorem c_startswith : Calls g n (.builtin "str.startswith") [.str x, .str y] (.bool (Txt.startswith x y)) := fun X A s vs hA hw hx r => by
  obtain ⟨v, u, rfl, r1, r2⟩ := r.two
  obtain ⟨t, rfl⟩ := r1.str_inv; obtain ⟨t', rfl⟩ := r2.str_inv
  exact SC.startswith ⟨.refl hw, .bool _⟩
theorem c_rjust (h : PadOk i = true) : Calls g n (.builtin "str.rjust") [.str x, .int i] (.str (Txt.rjust x i)) := fun X A s vs hA hw hx r => by
  obtain ⟨v, u, rfl, r1, r2⟩ := r.two
  obtain ⟨t, rfl⟩ := r1.str_inv; obtain ⟨t', rfl⟩ := r2.int_inv
  exact SC.rjust h fun t' k => ⟨(Step.refl hw).toks, .str ..⟩
theorem c_ljust (h : PadOk i = true) : Calls g n (.builtin "str.ljust") [.str x, .int i] (.str (Txt.ljust x i)) := fun X A s vs hA hw hx r => by
  obtain ⟨v, u, rfl, r1, r2⟩ := r.two
  obtain ⟨t, rfl⟩ := r1.str_inv; obtain ⟨t', rfl⟩ := r2.int_inv
  exact SC.ljust h fun t' k => ⟨(Step.refl hw).toks, .str ..⟩
theorem c_rjust0 (h : PadOk i = true) (hy : y.length = 1) : Calls g n (.builtin "str.rjust") [.str x, .int i, .str y] (.str (Txt.rjustF x i (y.cps.getD 0 0))) := fun X A s vs hA hw hx r => by
  obtain ⟨v, u, w, rfl, r1, r2, r3⟩ := r.three
  obtain ⟨t, rfl⟩ := r1.str_inv; obtain ⟨t', rfl⟩ := r2.int_inv; obtain ⟨t2, rfl⟩ := r3.str_inv
  exact rjust_fill h hy fun t' k => ⟨(Step.refl hw).toks, .str ..⟩

theorem strs_are {X : List Addr} {h : Heap} : ∀ {xs : List Str} {vs : List Value}, RdAll X h vs (strD xs) → StrsAre vs xs
  | [], _, r => by cases r; exact .nil
  | x :: xs, _, r => by
    cases r with
    | cons a b => obtain ⟨t, rfl⟩ := a.str_inv; exact .cons x t (strs_are b)
theorem c_join (h : (xs.map (·.length)).sum + xs.length * x.length ≤ 16777216) : Calls g n (.builtin "str.join") [.str x, .list (strD xs)] (.str (Txt.join x xs)) := fun X A s vs hA hw hx r => by
  obtain ⟨v, u, rfl, r1, r2⟩ := r.two
  obtain ⟨t, rfl⟩ := r1.str_inv
  obtain ⟨a, ws, k, rfl, _, ho, ra⟩ := r2.list_inv
  exact join_list (isList_of ho) (by simpa using strs_are ra) h fun t' k => ⟨(Step.refl hw).toks, .str ..⟩

theorem rdAll_strs {X : List Addr} {h : Heap} : ∀ (l : List (Str × Tok)), RdAll X h (strValues l) (strD (l.map (·.1)))
  | [] => .nil
  | (x, t) :: l => .cons (.str x t) (rdAll_strs l)
theorem c_split (hy : (y.length == 0) = false) (hx' : x.length ≤ sizeLine) (hn : (Txt.split x y).length ≤ sizeLine) : CallsL g n (.builtin "str.split") [.str x, .str y] (strD (Txt.split x y)) := fun X A s vs hA hw hx r => by
  obtain ⟨v, u, rfl, r1, r2⟩ := r.two
  obtain ⟨t, rfl⟩ := r1.str_inv; obtain ⟨t', rfl⟩ := r2.str_inv
  have fin : ∀ (l : List (Str × Tok)) (k : Nat), l.map (·.1) = Txt.split x y → Step g.W s { s with heap := s.heap.push { cls := .type "list", data := .seq (strValues l).toArray }, toks := k } ∧
      ∃ a ws k, Value.ref s.heap.objs.size = .ref a ∧ s.heap.objs.size ≤ a ∧ (s.heap.push { cls := .type "list", data := .seq (strValues l).toArray }).get? a = some (lstObj ws k) ∧ RdAll (a :: X) (s.heap.push { cls := .type "list", data := .seq (strValues l).toArray }) ws (strD (Txt.split x y)) :=
    fun l k e => ⟨((Step.refl hw).push g.ok _).toks, _, strValues l, 0, rfl, Nat.le_refl _, Heap.get?_push_size _ rfl, e ▸ rdAll_strs l⟩
  cases h1 : (decide (x.length < y.length) || decide (Builtin.Str.strKind x < Builtin.Str.strKind y))
  · cases hf : (Builtin.Str.occurrences x y 0 x.length (x.length + 1)).isEmpty
    · have es : Txt.split x y = Builtin.Str.partsBetween x (Builtin.Str.occurrences x y 0 x.length (x.length + 1)) y.length := by unfold Txt.split; rw [h1, hf]; rfl
      refine call_meets F.slot_str_split (typeIs_str _ _ _) F.entry_str_split (F.args_str_split_2 _ _) (meets_str_split_sep x y t t' h1 hy hf hx' (es ▸ hn)) ?_
      show wants _ NoE _ { s with toks := _, heap := s.heap.push { cls := .type "list", data := .seq (strsFrom s.toks (Builtin.Str.partsBetween x (Builtin.Str.occurrences x y 0 x.length (x.length + 1)) y.length)).toArray } }
      rw [strsFrom_eq]
      exact fin (numbered s.toks _) _ ((numbered_texts _ _).trans es.symm)
    · have es : Txt.split x y = [x] := by unfold Txt.split; rw [h1, hf]; rfl
      exact call_meets F.slot_str_split (typeIs_str _ _ _) F.entry_str_split (F.args_str_split_2 _ _) (meets_str_split_not_found x y t t' h1 hy hf) (fin [(x, t)] s.toks es.symm)
  · have es : Txt.split x y = [x] := by unfold Txt.split; rw [h1]; rfl
    exact call_meets F.slot_str_split (typeIs_str _ _ _) F.entry_str_split (F.args_str_split_2 _ _) (meets_str_split_cannot_occur x y t t' h1) (fin [(x, t)] s.toks es.symm)
end
end Mine
set_option Elab.async false
set_option maxRecDepth 100000
set_option linter.unusedVariables false
set_option tactic.hygienic false
namespace Mine
open PySem PyProof.Rows

/-- the objects of wr alone may change -/
structure MvD (W : WC) (wr : List Addr) (s s' : Shared) : Prop where
  kp : ∀ b o, b ∉ W.T → b ∉ wr → s.heap.get? b = some o → s'.heap.get? b = some o
  wd : Wd W s'.heap
  gk : GK s.gens s'.gens
  os : (s'.os, s'.drawn) = (s.os, s.drawn)
structure Mv (W : WC) (wr : List Addr) (s s' : Shared) : Prop extends MvD W wr s s' where
  lv : ∀ b ∈ wr, ∃ o, s'.heap.get? b = some o

/-- an iterator, over the data ds; base: the heap ahead of it -/
structure Itr (g : G) (n : Nat) (tgt : Expr) (X : List Addr) (base : Heap) (I : Value) (wr : List Addr) (ds : List PyData) (St : Nat → Heap → Prop) : Prop where
  new : ∀ b ∈ wr, g.W.n₀ ≤ b ∧ base.get? b = none
  fr : ∀ i h h', St i h → (∀ b ∈ wr, ∀ o, h.get? b = some o → h'.get? b = some o) → St i h'
  live : ∀ i h, St i h → ∀ b ∈ wr, ∃ o, h.get? b = some o
  next : ∀ i A s d, ds[i]? = some d → AOK n A → Wd g.W s.heap → (∀ b o, b ∉ X → base.get? b = some o → s.heap.get? b = some o) → St i s.heap →
    wpAny (model g.prog g.w) A (pyNext I) (fun r s1 => ∃ v, r = some v ∧ wpAny (model g.prog g.w) A (letOwnedTupleGo tgt I v) (fun _ s2 => Mv g.W wr s s2 ∧ St (i + 1) s2.heap ∧
      ∀ X', (∀ b ∈ X', ∃ o, s.heap.get? b = some o) → (∀ b o, b ∉ X → base.get? b = some o → b ∉ X') → Rd X' s2.heap v d) NoE s1) NoE s
  done : ∀ A s, AOK n A → Wd g.W s.heap → (∀ b o, b ∉ X → base.get? b = some o → s.heap.get? b = some o) → St ds.length s.heap →
    wpAny (model g.prog g.w) A (pyNext I) (fun r s1 => r = none ∧ MvD g.W wr s s1) NoE s
  self : ∀ i A s (Q : Value → Shared → Prop), St i s.heap → Q I s → wpAny (model g.prog g.w) A (pyIter I) Q NoE s

/-- an expression, then its iterator -/
structure EvI (g : G) (n : Nat) (tgt : Expr) (X₀ X : List Addr) (env : Env) (ρ : Rho) (e : Expr) (ds : List PyData) : Prop where
  mk ::
  run : ∀ A s, AOK n A → Wd g.W s.heap → Fok g.W X₀ X env s.heap ρ → wpAny (model g.prog g.w) A (eval e env) (fun xv s1 => wpAny (model g.prog g.w) A (pyIter xv) (fun I s2 =>
    ∃ base wr St, Step g.W s s2 ∧ (∀ b o, b ∉ g.W.T → s.heap.get? b = some o → base.get? b = some o) ∧ (∀ b o, base.get? b = some o → s2.heap.get? b = some o) ∧ Itr g n tgt X base I wr ds St ∧ St 0 s2.heap) NoE s1) NoE s

noncomputable def Asg (g : G) (n : Nat) (X₀ : List Addr) (env : Env) (t : Expr) (d : PyData) (ρ ρ' : Rho) : Prop :=
  ∀ X A s v, AOK n A → Wd g.W s.heap → Fok g.W X₀ X env s.heap ρ → Rd X s.heap v d → wpAny (model g.prog g.w) A (assign t env v) (fun _ s' => SS g.W X₀ X X s s' ∧ Fok g.W X₀ X env s'.heap ρ') NoE s

theorem codeAny_forLoopT {prog : Program} {w : World} {A : Around} {s : Shared} {R : Result → Shared → Prop} {target : Expr} {it : Value} {body orelse : List Stmt} {env : Env} (I : Nat → Shared → Prop)
    (turn : ∀ n s, I n s → wpAny (model prog w) A (pyNext it) (fun r s₁ => match r with
      | none => wpAny (model prog w) A (execs orelse env) (fun f s₃ => R (.ok f) s₃) NoE s₁
      | some v => wpAny (model prog w) A (letOwnedTupleGo target it v) (fun _ s₁' => wpAny (model prog w) A (assign target env v) (fun _ s₂ => wpAny (model prog w) A (execs body env) (fun f s₃ => match f with
          | .next | .cont => ∃ m, m < n ∧ I m s₃
          | .brk => R (.ok .next) s₃
          | .ret v => R (.ok (.ret v)) s₃) NoE s₂) NoE s₁') NoE s₁) NoE s)
    (n : Nat) (h : I n s) : codeAny (model prog w) A (.forLoop target it body orelse env) R s := by
  have no : ∀ {α : Type} {t : Sem α} {Q : α → Shared → Prop} {E : Value → Shared → Prop} {s : Shared}, wpAny (model prog w) A t Q NoE s → wpAny (model prog w) A t Q E s := fun h => wpAny_mono h (fun _ _ x => x) fun _ _ x => x.elim
  refine codeAny_loop' rfl I (fun n s hI => ?_) n h
  show wpAny _ _ ((forTurn target it body orelse env).onRaise (fun x => do noteFrame x env; theTreesLotGoes x)) _ _ s
  refine wpAny_noted ?_
  simp only [forTurn]
  refine wpAny_bind (wpAny_standAt (wpAny_bind (wpAny_onRaise (wpAny_mono (turn n s hI) (fun r s₁ h₁ => ?_) fun _ _ h' => h'.elim))))
  cases r with
  | none => exact wpAny_pure (.inr ⟨rfl, codeAny_block (no h₁)⟩)
  | some v =>
    refine wpAny_bind (wpAny_mono h₁ (fun _ s₁' h₁' => ?_) fun _ _ h' => h'.elim)
    refine wpAny_bind (wpAny_mono h₁' (fun _ s₂ h₂ => wpAny_bind (wpAny_mono h₂ (fun f s₃ h₃ => ?_) fun _ _ h' => h'.elim)) fun _ _ h' => h'.elim)
    cases f with
    | next => exact wpAny_pure (.inl ⟨rfl, h₃⟩)
    | cont => exact wpAny_pure (.inl ⟨rfl, h₃⟩)
    | brk => exact wpAny_pure h₃
    | ret v => exact wpAny_pure h₃

section
variable {g : G} {n : Nat} {X₀ X wr : List Addr} {env : Env} {ρ ρ' : Rho} {e iter target : Expr} {body : List Stmt} {d : PyData} {ds : List PyData} {pos p : Pos} {P Q : Fl → Rho → Prop} {s s' : Shared}

theorem Fok.ext (hf : Fok g.W X₀ X env s.heap ρ) (st : Step g.W s s') (hn : ∀ b ∈ wr, g.W.n₀ ≤ b ∧ s.heap.get? b = none) (hl : ∀ b ∈ wr, ∃ o, s'.heap.get? b = some o) : Fok g.W (wr ++ X₀) (wr ++ X) env s'.heap ρ := by
  have hf' := hf.step g.ok st
  have up : ∀ b o, b ∉ X → s.heap.get? b = some o → b ∉ wr ++ X ∧ s'.heap.get? b = some o := fun b o hb e => ⟨fun hm => (List.mem_append.mp hm).elim (fun q => by rw [(hn b q).2] at e; cases e) hb, st.kp b o (hf.X_T hb) e⟩
  have off : ∀ {b : Addr} {o : Obj}, s.heap.get? b = some o → b ∉ X₀ → b ∉ wr ++ X₀ := fun e h0 hm => (List.mem_append.mp hm).elim (fun q => by rw [(hn _ q).2] at e; cases e) h0
  obtain ⟨m, hn0, hv, hsp⟩ := hf.ns
  obtain ⟨m', hn', hv', hsp'⟩ := hf'.ns
  have hmm : m = m' := funext fun z => by
    have e1 : s'.heap.Ns env.locals m := hn0.at' fun o e => st.kp _ o (Fok.hiT g.ok hf.L.2.1) e
    exact e1.agree hn' z
  subst hmm
  refine ⟨hf'.kind, fun b hb => ?_, hf'.glob, hf'.blt, fun a ha => List.mem_append.mpr (.inr (hf'.T0 a ha)), fun b hb => ?_, fun b hb => ?_, ⟨List.mem_append.mpr (.inr hf'.L.1), hf'.L.2.1, ?_⟩, fun y c hy => ?_, fun y c hfn hy => ?_, hf'.cinj, m, hn', fun y sl hy => ?_, hsp'⟩
  · exact (List.mem_append.mp hb).elim (fun h => List.mem_append.mpr (.inl h)) fun h => List.mem_append.mpr (.inr (hf'.X0 b h))
  · exact (List.mem_append.mp hb).elim (hl b) (hf'.live b)
  · exact (List.mem_append.mp hb).elim (fun h => .inr (hn b h).1) (hf'.hi b)
  · obtain ⟨o, _, _, e, _⟩ := hn0
    exact off e hf'.L.2.2
  · obtain ⟨c1, c2⟩ := hf'.cells y c hy
    exact ⟨List.mem_append.mpr (.inr c1), c2⟩
  · obtain ⟨_, _, _, o, e, _⟩ := hf.cells y c hy
    exact off e (hf'.cown y c hfn hy)
  · obtain ⟨u, au, ku⟩ := hv y sl hy
    obtain ⟨u', au', ku'⟩ := hv' y sl hy
    refine ⟨u', au', ?_⟩
    have huu : u = u' := (au.step fun c o hc e => st.kp c o (Fok.hiT g.ok (hf.cells y c hc).2.1) e).same au'
    subst huu
    cases sl with
    | fz d => exact Rd.mono up ku
    | own es =>
      obtain ⟨b, ws, k, e1, e2, e3, e4, e5⟩ := ku
      exact ⟨b, ws, k, e1, List.mem_append.mpr (.inr e2), ⟨e3.1, off e4 e3.2⟩, st.kp b _ (Fok.hiT g.ok e3.1) e4, RdAll.mono up e5⟩

theorem Rd.mv (hw : ∀ b ∈ wr, b ∈ X) (hT : ∀ b ∈ g.W.T, b ∈ X) (mv : MvD g.W wr s s') {v : Value} (r : Rd X s.heap v d) : Rd X s'.heap v d :=
  r.mono fun b o hb e => ⟨hb, mv.kp b o (fun q => hb (hT b q)) (fun q => hb (hw b q)) e⟩
theorem RdAll.mv (hw : ∀ b ∈ wr, b ∈ X) (hT : ∀ b ∈ g.W.T, b ∈ X) (mv : MvD g.W wr s s') {v : List Value} (r : RdAll X s.heap v ds) : RdAll X s'.heap v ds :=
  r.mono fun b o hb e => ⟨hb, mv.kp b o (fun q => hb (hT b q)) (fun q => hb (hw b q)) e⟩

theorem Fok.mv (hf : Fok g.W X₀ X env s.heap ρ) (mv : Mv g.W wr s s') (hw : ∀ b ∈ wr, b ∈ X₀) (hc : ∀ x c, env.cells.lookup x = some c → c ∉ wr) : Fok g.W X₀ X env s'.heap ρ := by
  obtain ⟨m, hn, hv, hs⟩ := hf.ns
  have hwX : ∀ b ∈ wr, b ∈ X := fun b hb => hf.X0 b (hw b hb)
  have kp : ∀ b o, g.W.n₀ ≤ b → b ∉ wr → s.heap.get? b = some o → s'.heap.get? b = some o := fun b o h1 h2 e => mv.kp b o (Fok.hiT g.ok h1) h2 e
  have kc : ∀ x c o, env.cells.lookup x = some c → s.heap.get? c = some o → s'.heap.get? c = some o := fun x c o hx e => kp c o (hf.cells x c hx).2.1 (hc x c hx) e
  have back : ∀ {y : Str} {u : Value}, At env s'.heap m y u → At env s.heap m y u := by
    intro y u ay
    rcases ay with ⟨k1, k2⟩ | ⟨k1, c, k2, o, k3, k4⟩
    · exact .inl ⟨k1, k2⟩
    · obtain ⟨_, _, _, o', e', d'⟩ := hf.cells y c k2
      have := kc y c o' k2 e'
      rw [this] at k3; cases k3
      exact .inr ⟨k1, c, k2, _, e', k4⟩
  refine ⟨hf.kind, hf.X0, hf.glob, hf.blt, hf.T0, fun b hb => ?_, hf.hi, hf.L, fun y c hy => ?_, hf.cown, hf.cinj, m, hn.at' fun o e => kp _ o hf.L.2.1 (fun q => hf.L.2.2 (hw _ q)) e, fun y sl hy => ?_, fun y z ds es a b hyz hy hz ay az => hs y z ds es a b hyz hy hz (back ay) (back az)⟩
  · by_cases q : b ∈ wr
    · exact mv.lv b q
    · rcases hf.hi b hb with ht | hg
      · exact mv.wd.live ht
      · obtain ⟨o, e⟩ := hf.live b hb
        exact ⟨o, kp b o hg q e⟩
  · obtain ⟨c1, c2, u, o, eo, du⟩ := hf.cells y c hy
    exact ⟨c1, c2, u, o, kc y c o hy eo, du⟩
  · obtain ⟨u, au, ku⟩ := hv y sl hy
    refine ⟨u, au.step fun c o hc' e => kc y c o hc' e, ?_⟩
    cases sl with
    | fz d => exact Rd.mv hwX hf.T mv.toMvD ku
    | own es =>
      obtain ⟨b, ws, k, e1, e2, e3, e4, e5⟩ := ku
      exact ⟨b, ws, k, e1, e2, e3, kp b _ e3.1 (fun q => e3.2 (hw b q)) e4, RdAll.mv hwX hf.T mv.toMvD e5⟩

/-- the iterator is let go -/
theorem Fok.drop (hf : Fok g.W (wr ++ X₀) X env s.heap ρ) (mv : MvD g.W wr s s') (hT : ∀ b ∈ g.W.T, b ∈ X₀) (hTw : ∀ b ∈ wr, g.W.n₀ ≤ b ∧ b ∉ X₀) (hc : ∀ x c, env.cells.lookup x = some c → c ∉ wr) : Fok g.W X₀ (X.filter (· ∉ wr)) env s'.heap ρ := by
  obtain ⟨m, hn, hv, hs⟩ := hf.ns
  have inX : ∀ {b : Addr}, b ∈ X.filter (· ∉ wr) ↔ b ∈ X ∧ b ∉ wr := by intro b; simp
  have hw0 : ∀ b ∈ wr, b ∈ wr ++ X₀ := fun b hb => List.mem_append.mpr (.inl hb)
  have hwX : ∀ b ∈ wr, b ∈ X := fun b hb => hf.X0 b (hw0 b hb)
  have kp : ∀ b o, g.W.n₀ ≤ b → b ∉ wr → s.heap.get? b = some o → s'.heap.get? b = some o := fun b o h1 h2 e => mv.kp b o (Fok.hiT g.ok h1) h2 e
  have kc : ∀ x c o, env.cells.lookup x = some c → s.heap.get? c = some o → s'.heap.get? c = some o := fun x c o hx e => kp c o (hf.cells x c hx).2.1 (hc x c hx) e
  have back : ∀ {y : Str} {u : Value}, At env s'.heap m y u → At env s.heap m y u := by
    intro y u ay
    rcases ay with ⟨k1, k2⟩ | ⟨k1, c, k2, o, k3, k4⟩
    · exact .inl ⟨k1, k2⟩
    · obtain ⟨_, _, _, o', e', d'⟩ := hf.cells y c k2
      have := kc y c o' k2 e'
      rw [this] at k3; cases k3
      exact .inr ⟨k1, c, k2, _, e', k4⟩
  have fewer : ∀ b o, b ∉ X → s'.heap.get? b = some o → b ∉ X.filter (· ∉ wr) ∧ s'.heap.get? b = some o := fun b o hb e => ⟨fun q => hb (inX.mp q).1, e⟩
  refine ⟨hf.kind, fun b hb => inX.mpr ⟨hf.X0 b (List.mem_append.mpr (.inr hb)), fun q => (hTw b q).2 hb⟩, hf.glob, hf.blt, hT, fun b hb => ?_, fun b hb => hf.hi b (inX.mp hb).1, ⟨inX.mpr ⟨hf.L.1, fun q => hf.L.2.2 (hw0 _ q)⟩, hf.L.2.1, fun q => hf.L.2.2 (List.mem_append.mpr (.inr q))⟩, fun y c hy => ?_, fun y c hfn hy q => hf.cown y c hfn hy (List.mem_append.mpr (.inr q)), hf.cinj, m, hn.at' fun o e => kp _ o hf.L.2.1 (fun q => hf.L.2.2 (hw0 _ q)) e, fun y sl hy => ?_, fun y z ds es a b hyz hy hz ay az => hs y z ds es a b hyz hy hz (back ay) (back az)⟩
  · obtain ⟨h1, h2⟩ := inX.mp hb
    rcases hf.hi b h1 with ht | hg
    · exact mv.wd.live ht
    · obtain ⟨o, e⟩ := hf.live b h1
      exact ⟨o, kp b o hg h2 e⟩
  · obtain ⟨c1, c2, u, o, eo, du⟩ := hf.cells y c hy
    exact ⟨inX.mpr ⟨c1, hc y c hy⟩, c2, u, o, kc y c o hy eo, du⟩
  · obtain ⟨u, au, ku⟩ := hv y sl hy
    refine ⟨u, au.step fun c o hc' e => kc y c o hc' e, ?_⟩
    cases sl with
    | fz d => exact Rd.mono fewer (Rd.mv hwX hf.T mv ku)
    | own es =>
      obtain ⟨b, ws, k, e1, e2, e3, e4, e5⟩ := ku
      exact ⟨b, ws, k, e1, inX.mpr ⟨e2, fun q => e3.2 (hw0 b q)⟩, ⟨e3.1, fun q => e3.2 (List.mem_append.mpr (.inr q))⟩, kp b _ e3.1 (fun q => e3.2 (hw0 b q)) e4, RdAll.mono fewer (RdAll.mv hwX hf.T mv e5)⟩

/-- fewer foreign objects -/
theorem Fok.less {X₁ : List Addr} {h : Heap} (hf : Fok g.W X₁ X env h ρ) (h1 : ∀ a ∈ X₀, a ∈ X₁) (h2 : ∀ a ∈ g.W.T, a ∈ X₀) : Fok g.W X₀ X env h ρ := by
  obtain ⟨m, hn, hv, hs⟩ := hf.ns
  refine ⟨hf.kind, fun a ha => hf.X0 a (h1 a ha), hf.glob, hf.blt, h2, hf.live, hf.hi, ⟨hf.L.1, hf.L.2.1, fun q => hf.L.2.2 (h1 _ q)⟩, hf.cells, fun x c hfn hc q => hf.cown x c hfn hc (h1 _ q), hf.cinj, m, hn, fun y sl hy => ?_, hs⟩
  obtain ⟨u, au, ku⟩ := hv y sl hy
  refine ⟨u, au, ?_⟩
  cases sl with
  | fz d => exact ku
  | own es =>
    obtain ⟨b, ws, k, e1, e2, e3, e4, e5⟩ := ku
    exact ⟨b, ws, k, e1, e2, ⟨e3.1, fun q => e3.2 (h1 b q)⟩, e4, e5⟩
theorem SS.less {X₁ X' : List Addr} (h : SS g.W X₁ X X' s s') (h1 : ∀ a ∈ X₀, a ∈ X₁) : SS g.W X₀ X X' s s' :=
  ⟨fun b o ht hb e => h.kp b o ht (fun q => h1 b (hb q)) e, h.nx, h.tx, h.wd, h.gk, h.os⟩
theorem MvD.ss (mv : MvD g.W wr s s') (hw : ∀ b ∈ wr, b ∈ X ∧ b ∉ X₀) (hT : ∀ b ∈ g.W.T, b ∈ X) : SS g.W X₀ X X s s' :=
  ⟨fun b o ht hb e => mv.kp b o ht (fun q => (hw b q).2 (hb (hw b q).1)) e, fun _ h => .inl h, hT, mv.wd, mv.gk, mv.os⟩

theorem Asg.name {x : Str} (hk : Kn env x) : Asg g n X₀ env (.Name x p) d ρ ((x, .fz d) :: ρ) := fun X A s v hA hw hf r =>
  wpAny_assign_Name (store hw hf hk (sl := .fz d) r (fun _ _ _ _ _ _ q => nomatch q) fun s2 ss hf2 => ⟨ss, hf2⟩)

/-- the loop -/
theorem Ex1.forI (R : Nat → Rho) (J : Nat → Prop) (hJ : J 0) (hit : ∀ X, EvI g n target X₀ X env ρ iter ds) (h0 : Sub (R 0) ρ)
    (turn : ∀ i d, J i → ds[i]? = some d → ∃ ρ', (∀ X₁, Asg g n X₁ env target d (R i) ρ') ∧ ∀ X₁, Ex g n X₁ env ρ' body (fun f ρ'' => match f with | .next | .cont => Sub (R (i + 1)) ρ'' ∧ J (i + 1) | .brk => P .next ρ'' | .ret d => P (.ret d) ρ''))
    (hend : J ds.length → P .next (R ds.length)) (hs : ∀ x, foldedSetIterable iter env x = pure x := by intro _; rfl) : Ex1 g n X₀ env ρ (.For target iter body [] pos) P := .mk fun X A s hA hw hf => by
  refine wpAny_For (wpAny_mono ((hit X).run A s hA hw hf) (fun xv s1 h1 => wpAny_mono h1 (fun I s2 ⟨base, wr, St, st, hb1, hb2, it, hst⟩ => ?_) fun _ _ x => x) fun _ _ x => x) hs
  have free : ∀ b ∈ wr, g.W.n₀ ≤ b ∧ s.heap.get? b = none := fun b hb => ⟨(it.new b hb).1, by
    cases e : s.heap.get? b with
    | none => rfl
    | some o => have := hb1 b o (Fok.hiT g.ok (it.new b hb).1) e; rw [(it.new b hb).2] at this; cases this⟩
  have hfe : Fok g.W (wr ++ X₀) (wr ++ X) env s2.heap ρ := hf.ext st free (it.live 0 _ hst)
  have hcw : ∀ x c, env.cells.lookup x = some c → c ∉ wr := fun x c hx q => by
    obtain ⟨_, _, _, o, e, _⟩ := hf.cells x c hx
    rw [(free c q).2] at e; cases e
  have inX0 : ∀ a ∈ X₀, a ∈ wr ++ X₀ := fun a ha => List.mem_append.mpr (.inr ha)
  have inW0 : ∀ a ∈ wr, a ∈ wr ++ X₀ := fun a ha => List.mem_append.mpr (.inl ha)
  have offX0 : ∀ b ∈ wr, b ∉ X₀ := fun b hb q => by
    obtain ⟨o, e⟩ := hf.live b (hf.X0 b q)
    rw [(free b hb).2] at e; cases e
  -- what the end must show
  have fin : ∀ (X' : List Addr) (ρ' : Rho) (f : Fl) (fl : Flow) (s' : Shared), SS g.W X₀ (wr ++ X) X' s2 s' → Fok g.W X₀ X' env s'.heap ρ' → FlOk X' s'.heap fl f → P f ρ' →
      ∃ X' ρ' f, SS g.W X₀ X X' s s' ∧ Fok g.W X₀ X' env s'.heap ρ' ∧ FlOk X' s'.heap fl f ∧ P f ρ' := by
    intro X' ρ' f fl s' ss hf' hfl hp
    refine ⟨X', ρ', f, ⟨fun b o ht hb e => ?_, fun b hb => ?_, hf.T, ss.wd, st.gk.trans ss.gk, ss.os.trans st.os⟩, hf', hfl, hp⟩
    · refine ss.kp b o ht (fun q => ?_) (st.kp b o ht e)
      rcases List.mem_append.mp q with q | q
      · rw [(free b q).2] at e; cases e
      · exact hb q
    · rcases ss.nx b hb with q | q
      · rcases List.mem_append.mp q with q | q
        · exact .inr (free b q).2
        · exact .inl q
      · rcases hf'.hi b hb with ht | hg
        · exact .inl (hf.T b ht)
        · exact .inr (st.free g.ok hg q)
  refine codeAny_forLoopT (fun k s' => ∃ i X', k = ds.length + 1 - i ∧ i ≤ ds.length ∧ J i ∧ SS g.W X₀ (wr ++ X) X' s2 s' ∧ Fok g.W (wr ++ X₀) X' env s'.heap (R i) ∧ St i s'.heap) ?_ (ds.length + 1)
    ⟨0, wr ++ X, rfl, Nat.zero_le _, hJ, (Step.refl st.wd).ss hfe.T, hfe.sub h0, hst⟩
  rintro k s' ⟨i, X', rfl, hi, hJi, ss, hf', hst'⟩
  have hbase : ∀ b o, b ∉ X → base.get? b = some o → s'.heap.get? b = some o := fun b o hb e => ss.kp b o (fun q => hb (hf.T b q)) (fun q => by
    rcases List.mem_append.mp q with q | q
    · rw [(it.new b q).2] at e; cases e
    · exact (hb q).elim) (hb2 b o e)
  by_cases hlt : i < ds.length
  · obtain ⟨ρ', hasg, hbody⟩ := turn i _ hJi (List.getElem?_eq_getElem hlt)
    refine wpAny_mono (it.next i A s' _ (List.getElem?_eq_getElem hlt) hA ss.wd hbase hst') (fun r s3 ⟨v, hr, h3⟩ => ?_) fun _ _ x => x.elim
    subst hr
    refine wpAny_mono h3 (fun _ s4 ⟨mv, hst4, hrd⟩ => ?_) fun _ _ x => x.elim
    have hf4 := hf'.mv mv inW0 hcw
    have ss4 : SS g.W X₀ (wr ++ X) X' s2 s4 := ss.trans (mv.toMvD.ss (fun b hb => ⟨hf'.X0 b (inW0 b hb), offX0 b hb⟩) hf'.T)
    have r4 : Rd X' s4.heap v ds[i] := hrd X' (fun b hb => hf'.live b hb) fun b o hb e q => by
      rcases ss.nx b q with q | q
      · rcases List.mem_append.mp q with q | q
        · rw [(it.new b q).2] at e; cases e
        · exact hb q
      · rw [hb2 b o e] at q; cases q
    refine wpAny_mono (hasg _ X' A s4 v hA ss4.wd hf4 r4) (fun _ s5 ⟨ss5, hf5⟩ => ?_) fun _ _ x => x.elim
    refine wpAny_mono ((hbody _).run X' A s5 hA ss5.wd hf5) (fun fl s6 ⟨X6, ρ6, f6, ss6, hf6, hfl6, hp6⟩ => ?_) fun _ _ x => x.elim
    have ss6' : SS g.W X₀ (wr ++ X) X6 s2 s6 := (ss4.trans (ss5.less inX0)).trans (ss6.less inX0)
    have st6 : St (i + 1) s6.heap := it.fr _ _ _ hst4 fun b hb o e => ss6.kp b o (Fok.hiT g.ok (it.new b hb).1) (fun _ => inW0 b hb) (ss5.kp b o (Fok.hiT g.ok (it.new b hb).1) (fun _ => inW0 b hb) e)
    cases fl with
    | next => cases f6 with
      | next => exact ⟨ds.length + 1 - (i + 1), ar_dec hlt, i + 1, X6, rfl, hlt, hp6.2, ss6', hf6.sub hp6.1, st6⟩
      | _ => exact hfl6.elim
    | cont => cases f6 with
      | cont => exact ⟨ds.length + 1 - (i + 1), ar_dec hlt, i + 1, X6, rfl, hlt, hp6.2, ss6', hf6.sub hp6.1, st6⟩
      | _ => exact hfl6.elim
    | brk => cases f6 with
      | brk => exact fin X6 ρ6 .next .next s6 ss6' (hf6.less inX0 hf.T0) trivial hp6
      | _ => exact hfl6.elim
    | ret v => cases f6 with
      | ret d => exact fin X6 ρ6 (.ret d) (.ret v) s6 ss6' (hf6.less inX0 hf.T0) hfl6 hp6
      | _ => exact hfl6.elim
  · have hin : i = ds.length := ar_eq (by assumption) hlt
    subst hin
    refine wpAny_mono (it.done A s' hA ss.wd hbase hst') (fun r s3 ⟨hr, mv⟩ => ?_) fun _ _ x => x.elim
    subst hr
    have ss3 := ss.trans (mv.ss (fun b hb => ⟨hf'.X0 b (inW0 b hb), offX0 b hb⟩) hf'.T)
    exact wpAny_execs_nil (fin (X'.filter (· ∉ wr)) _ .next .next s3 ⟨ss3.kp, fun b hb => ss3.nx b (List.mem_filter.mp hb).1, ss3.tx, ss3.wd, ss3.gk, ss3.os⟩ (hf'.drop mv hf.T0 (fun b hb => ⟨(free b hb).1, offX0 b hb⟩) hcw) trivial (hend hJi))
theorem Ex1.for (R : Nat → Rho) (hit : ∀ X, EvI g n target X₀ X env ρ iter ds) (h0 : Sub (R 0) ρ)
    (turn : ∀ i d, ds[i]? = some d → ∃ ρ', (∀ X₁, Asg g n X₁ env target d (R i) ρ') ∧ ∀ X₁, Ex g n X₁ env ρ' body (fun f ρ'' => match f with | .next | .cont => Sub (R (i + 1)) ρ'' | .brk => P .next ρ'' | .ret d => P (.ret d) ρ''))
    (hend : P .next (R ds.length)) (hs : ∀ x, foldedSetIterable iter env x = pure x := by intro _; rfl) : Ex1 g n X₀ env ρ (.For target iter body [] pos) P :=
  Ex1.forI R (fun _ => True) trivial hit h0 (fun i d _ hd => let ⟨ρ', h1, h2⟩ := turn i d hd; ⟨ρ', h1, fun X₁ => (h2 X₁).mono fun f ρ'' hp => by cases f <;> first | exact ⟨hp, trivial⟩ | exact hp⟩) (fun _ => hend) hs
end
end Mine
set_option Elab.async false
set_option maxRecDepth 100000
set_option linter.unusedVariables false
set_option tactic.hygienic false
namespace Mine
open PySem PyProof.Rows

theorem go_none {M : Model} {A : Around} {E : Value → Shared → Prop} {s : Shared} {target : Expr} {r : Addr} {o : Obj} {nm : String} {vs : Array Value} {v : Value} {Q : Unit → Shared → Prop} (ho : s.heap.get? r = some o) (hc : o.cls = .type nm) (hd : o.data = .fields vs)
    (hn : (["enumerate", "zip", "dict_itemiterator", "dict_reverseitemiterator", "odict_iterator", "itertools.zip_longest", "itertools.pairwise"].contains nm) = false) (h : Q () s) : wpAny M A (letOwnedTupleGo target (.ref r) v) Q E s := by
  have main : wpAny M A (do
      let (.ref r, .ref a) := ((Value.ref r, v) : Value × Value) | return
      let o ← load r
      match o.cls, o.data with
      | .type n, .fields vs =>
        if ["enumerate", "zip", "dict_itemiterator", "dict_reverseitemiterator", "odict_iterator", "itertools.zip_longest", "itertools.pairwise"].contains n && vs[0]? == some (rawInt a) then
          rule "for.unpacks-the-owned-tuple"
          updateField r 0 .none
      | _, _ => pure () : Sem Unit) Q E s := by
    cases v with
    | ref a =>
      refine wpAny_bind (wpAny_load ho ?_)
      rw [hc, hd]
      show wpAny M A (if (_ && _) = true then _ else _) Q E s
      rw [hn, Bool.false_and, if_neg Bool.false_ne_true]
      exact wpAny_pure h
    | _ => exact wpAny_pure h
  cases target <;> first | exact wpAny_pure h | exact main

section
variable {g : G} {n : Nat} {X₀ X : List Addr} {env : Env} {ρ : Rho} {e tgt : Expr} {ds : List PyData} {es : List Expr} {pos p : Pos} {f : Str}

theorem mv_d {s : Shared} {a : Addr} {wr : List Addr} {h' : Heap} {k : Nat} (hw : Wd g.W s.heap) (ha : g.W.n₀ ≤ a) (haw : a ∈ wr) (hs : Heap.ExtBut a s.heap h') : MvD g.W wr s { s with heap := h', toks := k } :=
  ⟨fun b o _ hb e => hs b o (fun q => hb (q ▸ haw)) e, hw.keep g.ok fun b o hb e => hs b o (Nat.ne_of_lt (Nat.lt_of_lt_of_le hb ha)) e, .refl _, rfl⟩
theorem mv_one {s : Shared} {a : Addr} {h' : Heap} {k : Nat} (hw : Wd g.W s.heap) (ha : g.W.n₀ ≤ a) (hs : Heap.ExtBut a s.heap h') (hl : ∃ o, h'.get? a = some o) : Mv g.W [a] s { s with heap := h', toks := k } :=
  ⟨mv_d hw ha (.head _) hs, fun b hb => by rw [List.mem_singleton.mp hb]; exact hl⟩

theorem itr_list {base : Heap} {I l : Addr} {vs : List Value} {k : Nat} (hI : g.W.n₀ ≤ I) (hIb : base.get? I = none) (hlX : l ∉ X) (hl : base.get? l = some (lstObj vs k)) (ra : RdAll X base vs ds) : Itr g n tgt X base (.ref I) [I] ds (fun i h => h.IsListIter I l i) := by
  have hlI : l ≠ I := fun q => by rw [q, hIb] at hl; cases hl
  refine ⟨fun b hb => by rw [List.mem_singleton.mp hb]; exact ⟨hI, hIb⟩, fun i h h' st hk => st.at fun o e => hk I (.head _) o e, fun i h st b hb => ?_, fun i A s d hd hA hw hb st => ?_, fun A s hA hw hb st => ?_, fun i A s Q st hQ => wpAny_pyIter_listiter st hQ⟩
  · rw [List.mem_singleton.mp hb]
    obtain ⟨o, e, _⟩ := st
    exact ⟨o, e⟩
  · have hL : s.heap.IsList l vs.toArray := isList_of (hb l _ hlX hl)
    obtain ⟨v, hv, rv⟩ := ra.get hd
    refine wpAny_pyNext_list_item st hL (x := v) (by simpa using hv) fun h' hit hs => ⟨v, rfl, ?_⟩
    obtain ⟨oi, ei, ci, di⟩ := id hit
    refine go_none (s := { s with heap := h' }) ei ci di (by decide) ⟨mv_one hw hI hs.extBut ⟨_, ei⟩, hit, fun X' hX' hXb => ?_⟩
    refine rv.mono fun b o hbX e => ⟨hXb b o hbX e, hs.extBut b o (fun q => ?_) (hb b o hbX e)⟩
    rw [q, hIb] at e; cases e
  · have hL : s.heap.IsList l vs.toArray := isList_of (hb l _ hlX hl)
    exact wpAny_pyNext_list_end hA.hd st hL (by simp [ra.length]) fun h' he => ⟨rfl, mv_d hw hI (.head _) he⟩

theorem IsTupleIter.at' {h h' : Heap} {a t : Addr} {i : Nat} (x : h.IsTupleIter a t i) (e : ∀ o, h.get? a = some o → h'.get? a = some o) : h'.IsTupleIter a t i := let ⟨o, ho, r⟩ := x; ⟨o, e _ ho, r⟩
theorem itr_tuple {base : Heap} {I l : Addr} {vs : List Value} {k : Nat} (hI : g.W.n₀ ≤ I) (hIb : base.get? I = none) (hlX : l ∉ X) (hl : base.get? l = some (tupObj vs k)) (ra : RdAll X base vs ds) : Itr g n tgt X base (.ref I) [I] ds (fun i h => h.IsTupleIter I l i) := by
  have hlI : l ≠ I := fun q => by rw [q, hIb] at hl; cases hl
  refine ⟨fun b hb => by rw [List.mem_singleton.mp hb]; exact ⟨hI, hIb⟩, fun i h h' st hk => IsTupleIter.at' st fun o e => hk I (.head _) o e, fun i h st b hb => ?_, fun i A s d hd hA hw hb st => ?_, fun A s hA hw hb st => ?_, fun i A s Q st hQ => wpAny_pyIter_tupleiter st hQ⟩
  · rw [List.mem_singleton.mp hb]
    obtain ⟨o, e, _⟩ := st
    exact ⟨o, e⟩
  · have hL : s.heap.IsTuple l vs.toArray := isTuple_of (hb l _ hlX hl)
    obtain ⟨v, hv, rv⟩ := ra.get hd
    refine wpAny_pyNext_tuple_item st hL (x := v) (by simpa using hv) fun h' hit hs => ⟨v, rfl, ?_⟩
    obtain ⟨oi, ei, ci, di⟩ := id hit
    refine go_none (s := { s with heap := h' }) ei ci di (by decide) ⟨mv_one hw hI hs.extBut ⟨_, ei⟩, hit, fun X' hX' hXb => ?_⟩
    refine rv.mono fun b o hbX e => ⟨hXb b o hbX e, hs.extBut b o (fun q => ?_) (hb b o hbX e)⟩
    rw [q, hIb] at e; cases e
  · have hL : s.heap.IsTuple l vs.toArray := isTuple_of (hb l _ hlX hl)
    exact wpAny_pyNext_tuple_end hA.hd st hL (by simp [ra.length]) fun h' he => ⟨rfl, mv_d hw hI (.head _) he⟩

noncomputable def rngD (k : Nat) : List PyData := (List.range k).map fun (i : Nat) => PyData.int (i : Int)
theorem rngD_get {k i : Nat} {d : PyData} (h : (rngD k)[i]? = some d) : i < k ∧ d = .int (i : Int) := by
  unfold rngD at h
  rw [List.getElem?_map] at h
  by_cases hi : i < k
  · rw [List.getElem?_range hi] at h; simp at h; exact ⟨hi, h.symm⟩
  · rw [List.getElem?_eq_none (by simpa using hi)] at h; cases h
theorem rngD_len (k : Nat) : (rngD k).length = k := by simp [rngD]

theorem itr_range {base : Heap} {I : Addr} {k : Nat} (hI : g.W.n₀ ≤ I) (hIb : base.get? I = none) : Itr g n tgt X base (.ref I) [I] (rngD k) (fun i h => IsRangeIter h I (i : Int) ((k : Int) - (i : Int)) 1) := by
  refine ⟨fun b hb => by rw [List.mem_singleton.mp hb]; exact ⟨hI, hIb⟩, fun i h h' st hk => hk I (.head _) _ st, fun i h st b hb => ?_, fun i A s d hd hA hw hb st => ?_, fun A s hA hw hb st => ?_, fun i A s Q st hQ => wpAny_pyIter_rangeiter st hQ⟩
  · rw [List.mem_singleton.mp hb]; exact ⟨_, st⟩
  · obtain ⟨hi, rfl⟩ := rngD_get hd
    refine wpAny_pyNext_range_item st (by lia) fun h' hit hs => ⟨_, rfl, ?_⟩
    have e1 : (i : Int) + 1 = ((i + 1 : Nat) : Int) := by push_cast; rfl
    have e2 : (k : Int) - (i : Int) - 1 = (k : Int) - ((i + 1 : Nat) : Int) := by push_cast; lia
    rw [e1, e2] at hit
    exact go_none (s := { s with heap := h', toks := s.toks + 1 }) hit rfl rfl (by decide) ⟨mv_one hw hI hs.extBut ⟨_, hit⟩, hit, fun X' hX' hXb => .int ..⟩
  · rw [rngD_len] at st
    exact wpAny_pyNext_range_end hA.hd st (by lia) fun h' he => ⟨rfl, mv_d hw hI (.head _) he⟩

theorem itr_rev {base : Heap} {I l : Addr} {vs : List Value} {k : Nat} (hI : g.W.n₀ ≤ I) (hIb : base.get? I = none) (hlX : l ∉ X) (hl : base.get? l = some (lstObj vs k)) (ra : RdAll X base vs ds) :
    Itr g n tgt X base (.ref I) [I] ds.reverse (fun i h => i ≤ ds.length ∧ h.IsRevIter I l ((ds.length : Int) - 1 - (i : Int))) := by
  have hlI : l ≠ I := fun q => by rw [q, hIb] at hl; cases hl
  refine ⟨fun b hb => by rw [List.mem_singleton.mp hb]; exact ⟨hI, hIb⟩, fun i h h' st hk => ⟨st.1, st.2.at fun o e => hk I (.head _) o e⟩, fun i h st b hb => ?_, fun i A s d hd hA hw hb st => ?_, fun A s hA hw hb st => ?_, fun i A s Q st hQ => wpAny_pyIter_revIter st.2 hQ⟩
  · rw [List.mem_singleton.mp hb]
    obtain ⟨_, o, e, _⟩ := st
    exact ⟨o, e⟩
  · have hL : s.heap.IsList l vs.toArray := isList_of (hb l _ hlX hl)
    have hi : i < ds.length := by
      have := (List.getElem?_eq_some_iff.mp hd).1
      simpa using this
    rw [List.getElem?_reverse hi] at hd
    obtain ⟨v, hv, rv⟩ := ra.get hd
    have e : (ds.length : Int) - 1 - (i : Int) = ((ds.length - 1 - i : Nat) : Int) := by lia
    have hit := st.2
    rw [e] at hit
    refine wpAny_pyNext_rev_item hit hL (x := v) (by simpa using hv) fun h' hit hs => ⟨v, rfl, ?_⟩
    have e2 : ((ds.length - 1 - i : Nat) : Int) - 1 = (ds.length : Int) - 1 - ((i + 1 : Nat) : Int) := by lia
    rw [e2] at hit
    obtain ⟨oi, ei, ci, di⟩ := id hit
    refine go_none (s := { s with heap := h' }) ei ci di (by decide) ⟨mv_one hw hI hs.extBut ⟨_, ei⟩, ⟨hi, hit⟩, fun X' hX' hXb => ?_⟩
    refine rv.mono fun b o hbX e => ⟨hXb b o hbX e, hs.extBut b o (fun q => ?_) (hb b o hbX e)⟩
    rw [q, hIb] at e; cases e
  · have hL : s.heap.IsList l vs.toArray := isList_of (hb l _ hlX hl)
    have hit := st.2
    have e : (ds.length : Int) - 1 - ((ds.reverse.length : Nat) : Int) = -1 := by rw [List.length_reverse]; lia
    rw [e] at hit
    exact wpAny_pyNext_rev_end hA.hd hit fun h' he => ⟨rfl, mv_d hw hI (.head _) he⟩

noncomputable def enumD (c : Nat) : List PyData → List PyData
  | [] => []
  | d :: ds => .tuple [.int (c : Int), d] :: enumD (c + 1) ds
theorem enumD_get : ∀ {ds : List PyData} {c i : Nat} {d : PyData}, (enumD c ds)[i]? = some d → ∃ d', ds[i]? = some d' ∧ d = .tuple [.int ((i + c : Nat) : Int), d']
  | [], c, i, d, h => by simp [enumD] at h
  | d0 :: ds, c, 0, d, h => by simp [enumD] at h; exact ⟨d0, rfl, by rw [← h]; simp⟩
  | d0 :: ds, c, i + 1, d, h => by
    obtain ⟨d', h1, h2⟩ := enumD_get (ds := ds) (c := c + 1) (i := i) (by simpa [enumD] using h)
    exact ⟨d', by simpa using h1, by rw [h2]; congr 4; lia⟩
theorem enumD_len : ∀ (ds : List PyData) (c : Nat), (enumD c ds).length = ds.length
  | [], c => rfl
  | d :: ds, c => by simp [enumD, enumD_len ds]

theorem draws_list {prog : Program} {w : World} {A : Around} (hh : A.handled = none) {it l : Addr} (hne : l ≠ it) (c : Nat) (vs : Array Value) :
    Draws prog w A it [it, l] (vs.size + c) (fun i v => vs[i - c]? = some v) (fun i h => ∃ j, i = j + c ∧ h.IsListIter it l j ∧ h.IsList l vs) where
  live := fun i h ⟨j, _, ⟨o, e, _⟩, _⟩ => ⟨o, e⟩
  frame := fun i h h' ⟨j, hj, hi, hl⟩ k => ⟨j, hj, hi.at fun o e => k it (.head _) o e, hl.at fun o e => k l (.tail _ (.head _)) o e⟩
  item := fun i s Q E hi ⟨j, hj, hit, hl⟩ hQ => by
    subst hj
    have hx : vs[j]? = some (vs[j]'(by lia)) := Array.getElem?_eq_getElem (by lia)
    exact wpAny_nextOf_list_item hit hl hx fun h' hit' hs => hQ _ h' s.toks (by rw [Nat.add_sub_cancel]; exact hx) ⟨j + 1, by lia, hit', hl.extBut hs.extBut hne⟩ hs
  done := fun s Q E ⟨j, hj, hit, hl⟩ hE => by
    have : j = vs.size := by lia
    subst this
    exact wpAny_nextOf_list_end hh hit hl (by simp) fun h' e he hx => hE h' e he hx

theorem itr_enum {base : Heap} {I l it : Addr} {c : Nat} {vs : List Value} {k : Nat} {elts : List Expr} {x1 : Nat} {tp : Pos} (hI : g.W.n₀ ≤ I ∧ g.W.n₀ ≤ it) (hne : I ≠ it) (hIb : base.get? I = none ∧ base.get? it = none) (hlX : l ∉ X) (hl : base.get? l = some (lstObj vs k)) (ra : RdAll X base vs ds) :
    Itr g n (.Tuple elts x1 tp) X base (.ref I) [I, it] (enumD c ds) (fun i h => h.IsListIter it l i ∧ ∃ old, IsEnum h I it ((i + c : Nat) : Int) old) := by
  have hlI : l ≠ I := fun q => by rw [q, hIb.1] at hl; cases hl
  have hlt : l ≠ it := fun q => by rw [q, hIb.2] at hl; cases hl
  have mem : ∀ b ∈ [I, it], b = I ∨ b = it := fun b hb => by simpa using hb
  refine ⟨fun b hb => (mem b hb).elim (fun q => q ▸ ⟨hI.1, hIb.1⟩) fun q => q ▸ ⟨hI.2, hIb.2⟩, fun i h h' st hk => ⟨st.1.at fun o e => hk it (.tail _ (.head _)) o e, st.2.imp fun old e => hk I (.head _) _ e⟩, fun i h st b hb => ?_, fun i A s d hd hA hw hb st => ?_, fun A s hA hw hb st => ?_, fun i A s Q st hQ => ?_⟩
  · obtain ⟨⟨o, e, _⟩, old, e'⟩ := st
    exact (mem b hb).elim (fun q => q ▸ ⟨_, e'⟩) fun q => q ▸ ⟨o, e⟩
  · obtain ⟨hli, old, hen⟩ := st
    have hL : s.heap.IsList l vs.toArray := isList_of (hb l _ hlX hl)
    obtain ⟨d', hd', rfl⟩ := enumD_get hd
    obtain ⟨v, hv, rv⟩ := ra.get hd'
    have hilt : i < vs.length := (List.getElem?_eq_some_iff.mp hv).1
    refine wpAny_pyNext_enum_itemD (i := i + c) (draws_list (A := A.in1) hA.hd hlt c vs.toArray) hen ⟨i, rfl, hli, hL⟩ (by simp; lia) hne (by simp [hne]; exact Ne.symm hlI) fun x h' tk hP hout ⟨j, hj, hli', hL'⟩ htup hsz hk => ?_
    have hj' : j = i + 1 := by lia
    subst hj'
    have hx : x = v := by
      rw [Nat.add_sub_cancel] at hP
      have : vs[i]? = some x := by simpa using hP
      rw [hv] at this; cases this; rfl
    subst hx
    refine ⟨_, rfl, wpAny_letOwnedTupleGo_enum (s := { s with heap := h', toks := tk + 1 }) hout fun h2 hen2 hs2 => ?_⟩
    have hs2 : Heap.SameBut I h' h2 := hs2
    have kp : ∀ b o, b ≠ I → b ≠ it → s.heap.get? b = some o → h2.get? b = some o := fun b o h1 h2' e => hs2.extBut b o h1 (hk b o h1 h2' e)
    have hli2 : h2.IsListIter it l (i + 1) := hli'.at fun o e => hs2.extBut it o (Ne.symm hne) e
    have hII : I < s.heap.objs.size := Heap.lt_size hen
    refine ⟨⟨⟨fun b o _ hb' e => kp b o (fun q => hb' (by simp [q])) (fun q => hb' (by simp [q])) e, hw.keep g.ok fun b o hb' e => kp b o (Nat.ne_of_lt (Nat.lt_of_lt_of_le hb' hI.1)) (Nat.ne_of_lt (Nat.lt_of_lt_of_le hb' hI.2)) e, .refl _, rfl⟩, fun b hb' => ?_⟩, ⟨hli2, x, ?_⟩, fun X' hX' hXb => ?_⟩
    · obtain ⟨o, e, _⟩ := hli2
      exact (mem b hb').elim (fun q => q ▸ ⟨_, hen2⟩) fun q => q ▸ ⟨o, e⟩
    · have e1 : ((i + 1 + c : Nat) : Int) = ((i + c : Nat) : Int) + 1 := by push_cast; lia
      rw [e1]; exact hen2
    · refine .tuple (vs := [.int ((i + c : Nat) : Int) tk, x]) (n := 0) (fun q => ?_) (hs2.extBut _ _ (Nat.ne_of_gt hII) htup) (.cons (.int ..) (.cons ?_ .nil))
      · obtain ⟨o, e⟩ := hX' _ q
        exact Nat.lt_irrefl _ (Heap.lt_size e)
      · refine rv.mono fun b o hbX e => ⟨hXb b o hbX e, kp b o (fun q => ?_) (fun q => ?_) (hb b o hbX e)⟩
        · rw [q, hIb.1] at e; cases e
        · rw [q, hIb.2] at e; cases e
  · obtain ⟨hli, old, hen⟩ := st
    have hL : s.heap.IsList l vs.toArray := isList_of (hb l _ hlX hl)
    rw [enumD_len] at hli
    refine wpAny_pyNext_enum_endD (draws_list (A := A.in1) hA.hd hlt c vs.toArray) hen ⟨vs.length, by simp, ra.length ▸ hli, hL⟩ fun h' he => ⟨rfl, mv_d hw hI.2 (.tail _ (.head _)) he⟩
  · obtain ⟨hli, old, hen⟩ := st
    refine wpAny_pyIter_slot (T := "enumerate") ⟨_, hen, rfl⟩ F.slot_enumerate_iter (wpAny_call_entry F.slot_enumerate_iter ⟨_, hen, rfl⟩ F.entry_enumerate_iter ?_ (F.args_enumerate_iter_1 _))
    exact wpAny_pure ⟨_, rfl, "enumerate", _, ⟨_, hen, rfl⟩, F.slot_enumerate_next.lookup, hQ⟩

/-- a call that answers something to walk over -/
noncomputable def CallsI (g : G) (n : Nat) (tgt : Expr) (f : Value) (ds es : List PyData) : Prop :=
  ∀ X A s vs, AOK n A → Wd g.W s.heap → XOK g.W X s.heap → RdAll X s.heap vs ds → wpAny (model g.prog g.w) A (call f vs []) (fun v s' => wpAny (model g.prog g.w) A (pyIter v) (fun I s2 =>
    Step g.W s s2 ∧ (∀ b o, s.heap.get? b = some o → s2.heap.get? b = some o) ∧ ∃ wr St, Itr g n tgt X s.heap I wr es St ∧ St 0 s2.heap) NoE s') NoE s

theorem EvI.callT {T : String} {es' : List PyData} (hk : env.kindOf f = some .globalImplicit) (hg : g.W.mg f = Option.none) (hb : g.W.mb f = some (.type T)) (ha : EvA g n X₀ X env ρ es ds) (hc : CallsI g n tgt (.type T) ds es')
    (hd : (f == ("__debug__" : Str)) = false := by decide) : EvI g n tgt X₀ X env ρ (.Call (.Name f p) es [] pos) es' := .mk fun A s hA hw hf => by
  refine wpAny_Call_NameR (blt_load hw hf hk hg hb (PySem.callWith_type ha.any (ha.args hA (.refl hw) hf fun vs s' st _ hf' r => ?_)) hd)
  exact wpAny_mono (hc X A s' vs hA st.wd hf'.xok r) (fun v s2 h2 => wpAny_mono h2 (fun I s3 ⟨a, b, wr, St, c, d⟩ => ⟨s'.heap, wr, St, st.trans a, st.kp, b, c, d⟩) fun _ _ x => x) fun _ _ x => x

theorem none_of_le {h : Heap} {a : Addr} (ha : h.objs.size ≤ a) : h.get? a = none := by
  cases e : h.get? a with
  | none => rfl
  | some o => exact absurd (Heap.lt_size e) (Nat.not_lt.mpr ha)

theorem EvI.list (h : Ev g n X₀ X env ρ e (.list ds)) : EvI g n tgt X₀ X env ρ e ds := .mk fun A s hA hw hf =>
  h.use hA (.refl hw) hf fun v s1 st _ hf1 r => by
    obtain ⟨a, vs, k, rfl, haX, ho, ra⟩ := r.list_inv
    exact wpAny_pyIter_list (isList_of ho) ⟨s1.heap, _, _, st.push g.ok _, st.kp, fun b o e => Heap.get?_push_of_some _ e, itr_list (st.wd.sz g.ok) (get_size _) haX ho ra, ⟨_, Heap.get?_push_size _ rfl, rfl, rfl⟩⟩
theorem EvI.tuple (h : Ev g n X₀ X env ρ e (.tuple ds)) : EvI g n tgt X₀ X env ρ e ds := .mk fun A s hA hw hf =>
  h.use hA (.refl hw) hf fun v s1 st _ hf1 r => by
    obtain ⟨a, vs, k, rfl, haX, ho, ra⟩ := r.tuple_inv
    exact wpAny_pyIter_tuple (isTuple_of ho) ⟨s1.heap, _, _, st.push g.ok _, st.kp, fun b o e => Heap.get?_push_of_some _ e, itr_tuple (st.wd.sz g.ok) (get_size _) haX ho ra, ⟨_, Heap.get?_push_size _ rfl, rfl, rfl⟩⟩

theorem ci_range {k : Nat} (hk : k ≤ sizeLine) : CallsI g n tgt (.type "range") [.int (k : Int)] (rngD k) := fun X A s vs hA hw hx r => by
  obtain ⟨v, rfl, r1⟩ := r.one
  obtain ⟨t, rfl⟩ := r1.int_inv
  have hk' : k ≤ 16777216 := hk
  have hsz : Builtin.Range.rangeSize 0 (k : Int) 1 = (k : Int) := by rw [rangeSize_one]; split <;> lia
  refine call_range_1 (wpAny_pyIter_range (IsRange.new ..) (small_one (by decide) (by decide) (by lia) (by lia)) ?_)
  refine ⟨((Step.refl hw).push g.ok _).toks.push g.ok _, fun b o e => Heap.get?_push_of_some _ (Heap.get?_push_of_some _ e), _, _, itr_range (Nat.le_trans (hw.sz g.ok) (show s.heap.objs.size ≤ _ by rw [Heap.size_push]; exact Nat.le_succ _)) (none_of_le (by rw [Heap.size_push]; exact Nat.le_succ _)), ?_⟩
  rw [hsz]
  have := Heap.get?_push_size (s.heap.push { cls := .type "range", data := .fields #[.int 0 s.toks, .int (k : Int) t, .int 1 (s.toks + 1)] }) (o := { cls := .type "range_iterator", data := .fields #[rawInt 0, rawInt (k : Int), rawInt 1] }) rfl
  simpa using this

theorem ci_rev : CallsI g n tgt (.type "reversed") [.list ds] ds.reverse := fun X A s vs hA hw hx r => by
  obtain ⟨v, rfl, r1⟩ := r.one
  obtain ⟨a, vs, k, rfl, haX, ho, ra⟩ := r1.list_inv
  have hl : vs.toArray.size = ds.length := by simp [ra.length]
  refine call_reversed_list (isList_of ho) (wpAny_pyIter_revIter (l := a) (i := (ds.length : Int) - 1) ⟨_, Heap.get?_push_size _ rfl, rfl, by rw [← hl]; rfl⟩ ?_)
  exact ⟨(Step.refl hw).push g.ok _, fun b o e => Heap.get?_push_of_some _ e, _, _, itr_rev (hw.sz g.ok) (get_size _) haX ho ra, Nat.zero_le _, _, Heap.get?_push_size _ rfl, rfl, by rw [← hl]; simp [revObj]⟩

theorem ci_enum {elts : List Expr} {x1 : Nat} {tp : Pos} : CallsI g n (.Tuple elts x1 tp) (.type "enumerate") [.list ds] (enumD 0 ds) := fun X A s vs hA hw hx r => by
  obtain ⟨v, rfl, r1⟩ := r.one
  obtain ⟨a, vs, k, rfl, haX, ho, ra⟩ := r1.list_inv
  refine call_enumerate_list (isList_of ho) fun h' hen hli hsz hk => ?_
  have it := itr_enum (g := g) (n := n) (X := X) (elts := elts) (x1 := x1) (tp := tp) (base := s.heap) (I := s.heap.objs.size + 1) (it := s.heap.objs.size) (c := 0) ⟨Nat.le_succ_of_le (hw.sz g.ok), hw.sz g.ok⟩ (Nat.succ_ne_self _) ⟨none_of_le (Nat.le_succ _), get_size _⟩ haX ho ra
  exact it.self 0 A { s with heap := h' } _ ⟨hli, _, hen⟩ ⟨(Step.refl hw).grown g.ok hk, hk, _, _, it, hli, _, hen⟩

theorem typeCall_enum2 (a b : Value) : checkTypeCall "enumerate" ⟨[a, b], []⟩ = pure () := by kernel_rfl
theorem newCall_enum2 (a b : Value) : checkBuiltinCall "enumerate.__new__" ⟨[.type "enumerate", a, b], []⟩ = pure () := by kernel_rfl
set_option tactic.hygienic true in
theorem meets_enum2 (l : Addr) (items : Array Value) (n : Nat) (t : Tok) :
    Meets (Builtin.«enumerate.__new__» ⟨[.type "enumerate", .ref l, .int 1 t], []⟩) (fun _ R s => s.heap.get? l = some { cls := .type "list", dict := none, data := .seq items n, slots := #[] } ∧
      R (.ok (.ret (.ref (s.heap.push { cls := .type "list_iterator", data := .fields #[.ref l, .int 0 0] }).objs.size)))
        { s with heap := (s.heap.push { cls := .type "list_iterator", data := .fields #[.ref l, .int 0 0] }).push { cls := .type "enumerate", data := .fields #[.none, .bool false, .ref s.heap.objs.size, rawInt 1, .none, .none] } }) :=
  .of_wp fun prog w A R s h => by
    obtain ⟨hp, g, d, tk, os⟩ := s; obtain ⟨hl, h⟩ := h
    have hsub := sub_enumerate
    have hL : Heap.IsList (Shared.heap ⟨hp, g, d, tk, os⟩) l items := ⟨_, hl, rfl, n, rfl⟩
    wp_walk using AutoSeq1.wpAny_loadPart' hl
    refine wpAny_stack_any fun st => wpAny_pure ?_
    split
    · rename_i c _ _ _ _ _
      cases (c == Value.type "enumerate")
      · wp_walk using AutoSeq1.wpAny_loadPart' hl, wpAny_pyIter_list hL
        exact ⟨_, rfl, h⟩
      · wp_walk using AutoSeq1.wpAny_loadPart' hl, wpAny_pyIter_list hL
        exact ⟨_, rfl, h⟩
    · wp_walk using AutoSeq1.wpAny_loadPart' hl, wpAny_pyIter_list hL
      exact ⟨_, rfl, h⟩
theorem ci_enum1 {elts : List Expr} {x1 : Nat} {tp : Pos} : CallsI g n (.Tuple elts x1 tp) (.type "enumerate") [.list ds, .int 1] (enumD 1 ds) := fun X A s vs hA hw hx r => by
  obtain ⟨v, u, rfl, r1, r2⟩ := r.two
  obtain ⟨t, rfl⟩ := r2.int_inv
  obtain ⟨a, vs, k, rfl, haX, ho, ra⟩ := r1.list_inv
  refine callType_new F.called_enumerate (by decide) (typeCall_enum2 _ _) (newCall_enum2 _ _) (fun obj => F.initArgs_range_2 obj _ _) F.entry_enumerate_new (meets_enum2 a vs.toArray k t) ⟨ho, ?_⟩
  have hz : (s.heap.push { cls := .type "list_iterator", data := .fields #[.ref a, .int 0 0] }).objs.size = s.heap.objs.size + 1 := Heap.size_push ..
  show _ ∧ _
  rw [hz]
  have he : IsEnum ((s.heap.push { cls := .type "list_iterator", data := .fields #[.ref a, .int 0 0] }).push
      { cls := .type "enumerate", data := .fields #[.none, .bool false, .ref s.heap.objs.size, rawInt 1, .none, .none] }) (s.heap.objs.size + 1) s.heap.objs.size 1 .none := by
    have := Heap.get?_push_size (s.heap.push { cls := .type "list_iterator", data := .fields #[.ref a, .int 0 0] })
      (o := { cls := .type "enumerate", data := .fields #[.none, .bool false, .ref s.heap.objs.size, rawInt 1, .none, .none] }) rfl
    rw [hz] at this; exact this
  have it := itr_enum (g := g) (n := n) (X := X) (elts := elts) (x1 := x1) (tp := tp) (base := s.heap) (I := s.heap.objs.size + 1) (it := s.heap.objs.size) (c := 1) ⟨Nat.le_succ_of_le (hw.sz g.ok), hw.sz g.ok⟩ (Nat.succ_ne_self _) ⟨none_of_le (Nat.le_succ _), get_size _⟩ haX ho ra
  have hli : ((s.heap.push { cls := .type "list_iterator", data := .fields #[.ref a, .int 0 0] }).push
      { cls := .type "enumerate", data := .fields #[.none, .bool false, .ref s.heap.objs.size, rawInt 1, .none, .none] }).IsListIter s.heap.objs.size a 0 := ⟨_, Heap.get?_push_of_some _ (Heap.get?_push_size _ rfl), rfl, rfl⟩
  refine ⟨⟨_, he, rfl⟩, it.self 0 A _ _ ⟨hli, _, he⟩ ⟨((Step.refl hw).push g.ok _).push g.ok _, fun b o x => Heap.get?_push_of_some _ (Heap.get?_push_of_some _ x), _, _, it, hli, _, he⟩⟩
end
end Mine
set_option Elab.async false
set_option maxRecDepth 100000
set_option linter.unusedVariables false
set_option tactic.hygienic false
namespace Mine
open PySem PyProof.Rows

section
variable {g : G} {n : Nat} {X₀ X : List Addr} {env : Env} {ρ ρ' ρ₁ : Rho} {e t value : Expr} {d : PyData} {ds ds' : List PyData} {es ts : List Expr} {pos p tpos apos : Pos} {P Q : Fl → Rho → Prop} {x : Str} {s s' : Shared} {k : Nat}

theorem Rd.ss {X' : List Addr} (hT : ∀ b ∈ g.W.T, b ∈ X) (h : SS g.W X₀ X X s s') {v : Value} (r : Rd X s.heap v d) : Rd X s'.heap v d :=
  r.mono fun b o hb e => ⟨hb, h.kp b o (fun q => hb (hT b q)) (fun q => (hb q).elim) e⟩
theorem RdAll.ss (hT : ∀ b ∈ g.W.T, b ∈ X) (h : SS g.W X₀ X X s s') {v : List Value} (r : RdAll X s.heap v ds) : RdAll X s'.heap v ds :=
  r.mono fun b o hb e => ⟨hb, h.kp b o (fun q => hb (hT b q)) (fun q => (hb q).elim) e⟩

/-- several targets -/
structure AsgL (g : G) (n : Nat) (X₀ : List Addr) (env : Env) (ts : List Expr) (ds : List PyData) (ρ ρ' : Rho) : Prop where
  len : (assignEach ts env).length = ds.length
  star : ∀ q ∈ assignEach ts env, q.1 = false
  run : ∀ X A s vs, AOK n A → Wd g.W s.heap → Fok g.W X₀ X env s.heap ρ → RdAll X s.heap vs ds →
    wpAny (model g.prog g.w) A (assignInOrder ((assignEach ts env).map (·.2)) vs) (fun _ s' => SS g.W X₀ X X s s' ∧ Fok g.W X₀ X env s'.heap ρ') NoE s
theorem AsgL.nil : AsgL g n X₀ env [] [] ρ ρ := ⟨rfl, (fun q h => nomatch h), fun X A s vs hA hw hf r => wpAny_pure ⟨(Step.refl hw).ss hf.T, hf⟩⟩
theorem AsgL.cons (h : Asg g n X₀ env t d ρ ρ₁) (hs : AsgL g n X₀ env ts ds ρ₁ ρ') (hst : assignEach (t :: ts) env = (false, assign t env) :: assignEach ts env := by rfl) : AsgL g n X₀ env (t :: ts) (d :: ds) ρ ρ' := by
  refine ⟨by rw [hst]; simp [hs.len], fun q hq => ?_, fun X A s vs hA hw hf r => ?_⟩
  · rw [hst] at hq
    rcases List.mem_cons.mp hq with rfl | hq
    · rfl
    · exact hs.star q hq
  · cases r with
    | cons r1 r2 =>
      rw [hst]
      refine wpAny_bind (wpAny_holding (wpAny_mono (h X A s _ hA hw hf r1) (fun _ s1 ⟨ss1, hf1⟩ => ?_) fun _ _ x => x))
      exact wpAny_mono (hs.run X A s1 _ hA ss1.wd hf1 (r2.ss hf.T ss1)) (fun _ s2 ⟨ss2, hf2⟩ => ⟨ss1.trans ss2, hf2⟩) fun _ _ x => x
theorem Asg.tuple (h : AsgL g n X₀ env ts ds ρ ρ') : Asg g n X₀ env (.Tuple ts k tpos) (.tuple ds) ρ ρ' := fun X A s v hA hw hf r => by
  obtain ⟨a, vs, m, rfl, haX, ho, ra⟩ := r.tuple_inv
  have hlen := ra.length
  refine wpAny_assign_Tuple hA.hd (isTuple_of ho) (by simp [h.len, hlen]) ?_ fun h' he => ?_
  · exact List.findIdx?_eq_none_iff.mpr fun q hq => h.star q hq
  · have st : Step g.W s { s with heap := h' } := (Step.refl hw).grown g.ok fun b o e => he b o (Nat.ne_of_lt (Heap.lt_size e)) e
    exact wpAny_mono (h.run X A _ vs hA st.wd (hf.step g.ok st) (ra.step hf.T st)) (fun _ s2 ⟨ss2, hf2⟩ => ⟨(st.ss hf.T).trans ss2, hf2⟩) fun _ _ x => x
theorem Ex1.assignT (h : ∀ X, Ev g n X₀ X env ρ value (.tuple ds)) (ht : AsgL g n X₀ env ts ds ρ ρ') (hp : P .next ρ')
    (hs : swapsWithSole [.Tuple ts k tpos] value pos.line env = pure false := by rfl) (hw' : swappedStores [.Tuple ts k tpos] value env = pure none := by rfl) : Ex1 g n X₀ env ρ (.Assign [.Tuple ts k tpos] value pos) P := .mk fun X A s hA hw hf => by
  refine Assign_Tuple ((h X).use hA (.refl hw) hf fun v s1 st _ hf1 r => ?_) hs hw'
  exact wpAny_mono (Asg.tuple (k := k) (tpos := tpos) ht X A s1 v hA st.wd hf1 r) (fun _ s2 ⟨ss2, hf2⟩ => ⟨X, _, .next, (st.ss hf.T).trans ss2, hf2, trivial, hp⟩) fun _ _ x => x

theorem Ex1.aug {op : Operator} {a b : PyData} (hk : Kn env x) (hx : ρ.lookup x = some (.fz a)) (h : ∀ X, Ev g n X₀ X env ρ value b) (ho : OpI g n op a b d) (hp : P .next ((x, .fz d) :: ρ)) (hc : (x == ("__classdict__" : Str)) = false := by decide) :
    Ex1 g n X₀ env ρ (.AugAssign (.Name x p) op value pos) P := .mk fun X A s hA hw hf => by
  obtain ⟨m, v, hn, av, kv⟩ := hf.load hx
  refine wpAny_AugAssign_Name (load_at hf.kind hn av ((h X).use hA (.refl hw) hf fun u s1 st _ hf1 r => ?_) hc)
  refine wpAny_mono (ho X A s1 v u hA st.wd hf1.xok (Rd.step hf.T st kv) r) (fun y s2 ⟨st2, r2⟩ => ?_) fun _ _ x => x
  exact store st2.wd (hf1.step g.ok st2) hk (sl := .fz d) r2 (fun _ _ _ _ _ _ q => nomatch q) fun s3 ss hf3 => ⟨X, _, .next, ((st.trans st2).ss hf.T).trans ss, hf3, trivial, hp⟩
theorem op_iaddS {x y : Str} (h : x.length + y.length ≤ sizeLine) : OpI g n .Add (.str x) (.str y) (.str (x ++ y)) := fun X A s v u hA hw hx r1 r2 => by
  obtain ⟨t, rfl⟩ := r1.str_inv; obtain ⟨t', rfl⟩ := r2.str_inv
  exact PyProof.Rows.iadd_str (fun t' k => ⟨(Step.refl hw).toks, .str ..⟩) h

/-- a method that changes its list -/
noncomputable def MutL (g : G) (n : Nat) (id : String) (ds args ds' : List PyData) : Prop :=
  ∀ X A s a vs k us, AOK n A → Wd g.W s.heap → XOK g.W X s.heap → s.heap.get? a = some (lstObj vs k) → RdAll X s.heap vs ds → RdAll X s.heap us args →
    wpAny (model g.prog g.w) A (call (.builtin id) (.ref a :: us) []) (fun v s' => (∀ b, v ≠ .ref b) ∧ ∃ h' tk vs' k', s' = { s with heap := h', toks := tk } ∧ Heap.SameBut a s.heap h' ∧ h'.get? a = some (lstObj vs' k') ∧ RdAll X s.heap vs' ds') NoE s

theorem Ex1.mut {name : Str} {id : String} (hx : ρ.lookup x = some (.own ds)) (slot : Slot "list" name id) (hty : typeOf (.builtin id) = pure (.type "method_descriptor")) {args : List PyData} (ha : ∀ X, EvA g n X₀ X env ρ es args) (hm : MutL g n id ds args ds') (hp : P .next ((x, .own ds') :: ρ))
    (hd : ((x == ("__debug__" : Str)) || (x == ("__classdict__" : Str))) = false := by decide) (hl : es.length < 30 := by decide) (hbase : attributeBase (.Name x p) name env (eval (.Name x p) env) = eval (.Name x p) env := by rfl) (hline : (apos.endLine == tpos.line) = true := by rfl)
    (hi : interactive env = false := by rfl) (hs : swapsWith (.Call (.Attribute (.Name x p) name apos) es [] tpos) none pos.line env = pure false := by rfl) : Ex1 g n X₀ env ρ (.Expr (.Call (.Attribute (.Name x p) name apos) es [] tpos) pos) P := .mk fun X A s hA hw hf => by
  obtain ⟨h1, h2⟩ := Bool.or_eq_false_iff.mp hd
  obtain ⟨m, v, hn, av, a, vs, k, rfl, haX, haB, ho, ra⟩ := hf.load hx
  refine wpAny_Expr ?_ hi hs
  refine wpAny_Call_method hbase (few_of (ha X) hl) hline F.plainAttrs_list slot hty (wpAny_Name (load_at hf.kind hn av ⟨⟨_, ho, rfl⟩, fun b q => by cases q; exact ⟨_, ho, rfl⟩, ?_⟩ h2) h1)
  refine Calls.callWith_builtin (ha X).any ((ha X).args hA (.refl hw) hf fun us s1 st _ hf1 r => ?_)
  have kh : ∀ b o, g.W.n₀ ≤ b → s.heap.get? b = some o → s1.heap.get? b = some o := fun b o hb e => st.kp b o (Fok.hiT g.ok hb) e
  have ho1 := kh a _ haB.1 ho
  have hn1 : s1.heap.Ns env.locals m := hn.at' fun o e => kh _ o hf.L.2.1 e
  have av1 := av.step fun c o hc e => kh c o (hf.cells x c hc).2.1 e
  refine wpAny_mono (hm X A s1 a vs k us hA st.wd hf1.xok ho1 (ra.step hf.T st) r) (fun v s2 ⟨hv, h', tk, vs', k', e, hb, ho', ra'⟩ => ?_) fun _ _ x => x
  subst e
  have fin : ∃ X' ρ' f, SS g.W X₀ X X' s { s1 with heap := h', toks := tk } ∧ Fok g.W X₀ X' env h' ρ' ∧ FlOk X' h' .next f ∧ P f ρ' :=
    ⟨X, _, .next, (st.ss hf.T).trans (ss_but st.wd hf1 haX haB.1 haB.2 hb), hf1.grow st.wd hx hn1 av1 ho1 haX haB hb ho' ra', trivial, hp⟩
  cases v with
  | ref b => exact (hv b rfl).elim
  | _ => exact fin

theorem mut_append (hz : ds.length ≤ sizeLine) : MutL g n "list.append" ds [d] (ds ++ [d]) := fun X A s a vs k us hA hw hx ho ra r => by
  obtain ⟨u, rfl, ru⟩ := r.one
  refine call_meets F.slot_list_append ⟨_, ho, rfl⟩ F.entry_list_append (F.args_list_append_2 _ _) (AutoListH.list_append_list_val_0 a vs.toArray k u (by simpa [ra.length] using hz)) ⟨ho, ?_⟩
  have e := IsL.update (l := a) (items := vs.toArray) (n := k) ho (fun xs => xs.push u)
  exact ⟨fun b q => (nomatch q), _, _, vs ++ [u], _, rfl, Heap.SameBut.update .., e.trans (by simp [lstObj]; rfl), ra.append (.cons ru .nil)⟩
theorem mut_pop (hz : ds.length ≤ sizeLine) (hlast : ds.getLast? = some d) (hd : Scalar d) : MutL g n "list.pop" ds [] ds.dropLast := fun X A s a vs k us hA hw hx ho ra r => by
  cases r
  have hlen := ra.length
  obtain ⟨y, hy, ry⟩ := ra.get (k := ds.length - 1) (by rw [← List.getLast?_eq_getElem?]; exact hlast)
  refine call_meets F.slot_list_pop ⟨_, ho, rfl⟩ F.entry_list_pop (F.args_list_pop_1 _) (MeetsSeq.list_pop_last a vs.toArray k y (by simpa [hlen] using hy) (by simpa [hlen] using hz)) ⟨ho, ?_⟩
  have e := IsL.update (l := a) (items := vs.toArray) (n := k) ho (fun xs => xs.eraseIdxIfInBounds (vs.toArray.size - 1))
  have hpos : 0 < vs.length := Nat.lt_of_le_of_lt (Nat.zero_le _) (List.getElem?_eq_some_iff.mp hy).1
  have e2 : vs.toArray.eraseIdxIfInBounds (vs.toArray.size - 1) = vs.dropLast.toArray := by
    apply Array.ext'
    rw [Array.eraseIdxIfInBounds, dif_pos (by simp; omega)]
    simp [List.eraseIdx_length_sub_one]
  rw [e2] at e
  refine ⟨fun b q => ?_, _, _, vs.dropLast, _, rfl, Heap.SameBut.update .., e, ?_⟩
  · subst q
    cases ry <;> exact hd.elim
  · rw [List.dropLast_eq_take, List.dropLast_eq_take, hlen]; exact ra.take _

/-- while, with a measure -/
theorem Ex1.while {test : Expr} {body : List Stmt} (R : Nat → Rho) (N : Nat) (b : Nat → Bool) (h0 : Sub (R 0) ρ) (hb : b N = false)
    (ht : ∀ i X₁ X, i ≤ N → Tr g n X₁ X env (R i) test (b i)) (turn : ∀ i X₁, i < N → b i = true → Ex g n X₁ env (R i) body (fun f ρ'' => match f with | .next | .cont => Sub (R (i + 1)) ρ'' | .brk => P .next ρ'' | .ret d => P (.ret d) ρ''))
    (hend : ∀ i, i ≤ N → b i = false → P .next (R i)) : Ex1 g n X₀ env ρ (.While test body [] pos) P := .mk fun X A s hA hw hf => by
  refine wpAny_While (codeAny_whileLoop (fun k s' => ∃ i X', k = N - i ∧ i ≤ N ∧ SS g.W X₀ X X' s s' ∧ Fok g.W X₀ X' env s'.heap (R i)) ?_ N ⟨0, X, rfl, Nat.zero_le _, (Step.refl hw).ss hf.T, hf.sub h0⟩)
  rintro k s' ⟨i, X', rfl, hi, ss, hf'⟩
  refine wpAny_mono ((ht i X₀ X' hi).run A s' hA ss.wd hf') (fun c s1 ⟨st, hc⟩ => ?_) fun _ _ x => x.elim
  subst hc
  have ss1 := ss.trans (st.ss hf'.T)
  have hf1 := hf'.step g.ok st
  cases hbi : b i with
  | false => exact wpAny_execs_nil ⟨X', _, .next, ss1, hf1, trivial, hend i hi hbi⟩
  | true =>
    have hlt : i < N := Nat.lt_of_le_of_ne hi fun q => by rw [q, hb] at hbi; cases hbi
    refine wpAny_mono ((turn i X₀ hlt hbi).run X' A s1 hA ss1.wd hf1) (fun fl s6 ⟨X6, ρ6, f6, ss6, hf6, hfl6, hp6⟩ => ?_) fun _ _ x => x.elim
    have ss6' := ss1.trans ss6
    cases fl with
    | next => cases f6 with
      | next => exact ⟨N - (i + 1), ar_dec0 hlt, i + 1, X6, rfl, hlt, ss6', hf6.sub hp6⟩
      | _ => exact hfl6.elim
    | cont => cases f6 with
      | cont => exact ⟨N - (i + 1), ar_dec0 hlt, i + 1, X6, rfl, hlt, ss6', hf6.sub hp6⟩
      | _ => exact hfl6.elim
    | brk => cases f6 with
      | brk => exact ⟨X6, ρ6, .next, ss6', hf6, trivial, hp6⟩
      | _ => exact hfl6.elim
    | ret v => cases f6 with
      | ret d => exact ⟨X6, ρ6, .ret d, ss6', hf6, hfl6, hp6⟩
      | _ => exact hfl6.elim
end
end Mine
set_option Elab.async false
set_option maxRecDepth 100000
set_option linter.unusedVariables false
set_option tactic.hygienic false
namespace Mine
open PySem PyProof.Rows

/-- the names that a comprehension reads from around it -/
noncomputable def FreeOk (env : Env) (scope : Scope) (cl : List (Str × Addr)) (ρ ρc : Rho) : Prop :=
  ∀ x sl, ρc.lookup x = some sl → ∃ d c, sl = .fz d ∧ ρ.lookup x = some (.fz d) ∧ env.kindOf x = some .cell ∧ env.cells.lookup x = some c ∧ cl.lookup x = some c ∧ (relabel scope env).names.lookup x = some .cell
theorem FreeOk.nil {env : Env} {scope : Scope} {cl : List (Str × Addr)} {ρ : Rho} : FreeOk env scope cl ρ [] := fun _ _ h => nomatch h
theorem FreeOk.cons {env : Env} {scope : Scope} {cl : List (Str × Addr)} {ρ ρc : Rho} {x : Str} {d : PyData} {c : Addr} (h1 : ρ.lookup x = some (.fz d)) (h2 : env.kindOf x = some .cell) (h3 : env.cells.lookup x = some c) (h4 : cl.lookup x = some c) (h5 : (relabel scope env).names.lookup x = some .cell) (k : FreeOk env scope cl ρ ρc) : FreeOk env scope cl ρ ((x, .fz d) :: ρc) := fun y sl hy => by
  rcases lookup_own hy with ⟨rfl, rfl⟩ | ⟨_, hy⟩
  · exact ⟨d, c, rfl, h1, h2, h3, h4, h5⟩
  · exact k y sl hy

/-- the tests of a comprehension -/
noncomputable def Tests (g : G) (n : Nat) (X₀ X : List Addr) (env : Env) (ρ : Rho) (ifs : List Expr) (b : Bool) : Prop := match ifs with
  | [] => b = true
  | [c] => Tr g n X₀ X env ρ c b
  | _ => False

/-- one turn of a comprehension -/
noncomputable def CompTurn (prog : Program) (w : World) (A : Around) (R : Result → Shared → Prop) (elt target : Expr) (ifs : List Expr) (it acc : Value) (env : Env) (I : Nat → Shared → Prop) (n : Nat) (s : Shared) : Prop :=
  wpAny (model prog w) A (pyNext it) (fun r s₁ => match r with
      | none => R (.ok .next) s₁
      | some v => wpAny (model prog w) A (letOwnedTupleGo target it v) (fun _ s₁' => wpAny (model prog w) A (assign target env v) (fun _ s₂ =>
          wpAny (model prog w) A (forIn ifs true fun c r => if r = true then do let ok ← isTrue c env (eval c env); pure (ForInStep.yield ok) else pure (ForInStep.yield r)) (fun ok s₃ =>
            if ok = true then wpAny (model prog w) A (eval elt env) (fun x s₄ => wpAny (model prog w) A (call (.builtin "list.append") [acc, x]) (fun _ s₅ => ∃ m, m < n ∧ I m s₅) NoE s₄) NoE s₃
            else ∃ m, m < n ∧ I m s₃) NoE s₂) NoE s₁') NoE s₁) NoE s
theorem codeAny_compLoopT {prog : Program} {w : World} {A : Around} {R : Result → Shared → Prop} {s : Shared} {elt target iter : Expr} {ifs : List Expr} {scope : Scope} {pos : Pos} {it acc : Value} {env : Env} (I : Nat → Shared → Prop)
    (turn : ∀ n s, I n s → CompTurn prog w A R elt target ifs it acc env I n s)
    (n : Nat) (h : I n s) : codeAny (model prog w) A (.compLoop (.ListComp elt [⟨target, iter, ifs, 0⟩] scope pos) 0 it acc env) R s := by
  refine codeAny_loop rfl I (fun n s hI => ?_) n h
  show wpAny _ A ((compTurn (.ListComp elt [⟨target, iter, ifs, 0⟩] scope pos) 0 it acc env).onRaise (fun x => do noteFrame x env; theTreesLotGoes x)) _ _ s
  refine wpAny_noted ?_
  rw [compTurn_list]
  refine wpAny_bind (wpAny_standAt (wpAny_bind (wpAny_mono (turn n s hI) (fun r s₁ h₁ => ?_) fun _ _ h' => h'.elim)))
  cases r with
  | none => exact wpAny_pure h₁
  | some v =>
    refine wpAny_bind (wpAny_mono h₁ (fun _ s₁' h₁' => ?_) fun _ _ h' => h'.elim)
    refine wpAny_bind (wpAny_mono h₁' (fun _ s₂ h₂ => wpAny_bind (wpAny_mono h₂ (fun ok s₃ h₃ => ?_) fun _ _ h' => h'.elim)) fun _ _ h' => h'.elim)
    cases ok with
    | false => exact wpAny_pure ⟨rfl, h₃⟩
    | true => exact wpAny_bind (wpAny_bind (wpAny_mono h₃ (fun x s₄ h₄ => wpAny_bind (wpAny_mono h₄ (fun _ s₅ h₅ => wpAny_pure (wpAny_pure ⟨rfl, h₅⟩)) fun _ _ h' => h'.elim)) fun _ _ h' => h'.elim))

section
variable {g : G} {n : Nat} {X₀ X : List Addr} {env : Env} {ρ ρc : Rho} {elt target iter : Expr} {ifs : List Expr} {scope : Scope} {cl : List (Str × Addr)} {ds : List PyData} {pos p : Pos} {s : Shared} {A : Around} {x : Str} {P : Fl → Rho → Prop}

theorem tests_run {b : Bool} (h : Tests g n X₀ X env ρ ifs b) (hA : AOK n A) (hw : Wd g.W s.heap) (hf : Fok g.W X₀ X env s.heap ρ) :
    wpAny (model g.prog g.w) A (forIn ifs true fun c r => if r = true then do let ok ← isTrue c env (eval c env); pure (ForInStep.yield ok) else pure (ForInStep.yield r)) (fun ok s' => Step g.W s s' ∧ ok = b) NoE s := by
  match ifs, h with
  | [], h => subst h; exact wpAny_tests_nil ⟨.refl hw, rfl⟩
  | [c], h => exact wpAny_tests_one (h.run A s hA hw hf)

structure CompEnd (g : G) (X : List Addr) (C acc : Addr) (s s5 : Shared) (out : List PyData) : Prop where
  st : Step g.W s s5
  ns : ∃ m, s5.heap.Ns C m
  o : ∃ vs k, s5.heap.get? acc = some (lstObj vs k) ∧ RdAll (C :: acc :: X) s5.heap vs out
  hC : g.W.n₀ ≤ C ∧ s.heap.get? C = none
  ha : g.W.n₀ ≤ acc ∧ s.heap.get? acc = none
  ne : C ≠ acc

/-- what a comprehension's turns must show -/
structure CompOk (g : G) (n : Nat) (env : Env) (ρ ρc : Rho) (elt target : Expr) (ifs : List Expr) (scope : Scope) (cl : List (Str × Addr)) (ds : List PyData) (out : Nat → List PyData) : Prop where
  clos : closureFor scope env = pure cl
  sub : ∀ x c, cl.lookup x = some c → env.cells.lookup x = some c
  kind : scope.kind = .function
  names : ∀ y ∈ scope.names, y.2 = .local → scope.names.lookup y.1 = some .local
  cell : ∀ y ∈ scope.names, y.2 ≠ .cell
  free : FreeOk env scope cl ρ ρc
  turn : ∀ i d, ds[i]? = some d → ∃ ρ' b, Sub ρc ρ' ∧ (∀ C X₁, Asg g n X₁ (compEnvC scope cl C env) target d ρc ρ') ∧ (∀ C X₁ X, Tests g n X₁ X (compEnvC scope cl C env) ρ' ifs b) ∧ (b = false → out (i + 1) = out i) ∧
    (b = true → ∃ d', out (i + 1) = out i ++ [d'] ∧ ∀ C X₁ X, Ev g n X₁ X (compEnvC scope cl C env) ρ' elt d')
  zero : out 0 = []
  sz : ∀ i, i ≤ ds.length → (out i).length ≤ sizeLine

/-- what holds ahead of each turn -/
structure CInv (g : G) (ce : Env) (C acc : Addr) (wr X : List Addr) (ρc : Rho) (St : Nat → Heap → Prop) (out : Nat → List PyData) (N : Nat) (s4 : Shared) (k : Nat) (s' : Shared) (i : Nat) (vs : List Value) (k' : Nat) : Prop where
  e : k = N + 1 - i
  hi : i ≤ N
  mv : MvD g.W (C :: acc :: wr) s4 s'
  hf : Fok g.W (acc :: (wr ++ X)) (C :: acc :: (wr ++ X)) ce s'.heap ρc
  st : St i s'.heap
  ho : s'.heap.get? acc = some (lstObj vs k')
  ra : RdAll (C :: acc :: (wr ++ X)) s'.heap vs (out i)
theorem comp_core {out : Nat → List PyData} {use : Option (Value → Sem Unit)} {Q : Value → Shared → Prop} (hit : EvI g n target X₀ X env ρ iter ds) (ok : CompOk g n env ρ ρc elt target ifs scope cl ds out)
    (hA : AOK n A) (hw : Wd g.W s.heap) (hf : Fok g.W X₀ X env s.heap ρ) (fin : ∀ C acc s5, CompEnd g X C acc s s5 (out ds.length) → compPost (model g.prog g.w) A NoE use Q (.ref acc) C (.ok .next) s5)
    (hs : ∀ x, foldedSetIterable iter env x = pure x) : wpAny (model g.prog g.w) A (comprehension (.ListComp elt [⟨target, iter, ifs, 0⟩] scope pos) scope env p (newList []) false (eval iter env) use) Q NoE s := by
  refine wpAny_comprehension_free rfl hs ok.clos ok.kind ok.names (wpAny_mono (hit.run A s hA hw hf) (fun xv s1 h1 => wpAny_mono h1 (fun I s2 ⟨base, wr, St, st, hb1, hb2, it, hst⟩ => ?_) fun _ _ x => x) fun _ _ x => x)
  refine wpAny_newObj_type (wpAny_newFunctionEnv ok.cell (by intro y hy; simp at hy) (fun h₁ hns₁ hsb₁ => ?_) ok.kind)
  dsimp only at hns₁ hsb₁ ⊢
  generalize hH2 : s2.heap.push { cls := .type "list", dict := none, data := .seq ([] : List Value).toArray } = H2 at hns₁ hsb₁ ⊢
  generalize hCdef : H2.objs.size = C at hns₁ hsb₁ ⊢
  generalize hadef : s2.heap.objs.size = acc
  have hCe : C = acc + 1 := by rw [← hCdef, ← hH2, Heap.size_push, hadef]
  have hne : C ≠ acc := by rw [hCe]; exact Nat.succ_ne_self _
  have old : ∀ b o, s2.heap.get? b = some o → h₁.get? b = some o := fun b o e => hsb₁.extBut b o (Nat.ne_of_lt (by rw [hCe, ← hadef]; exact Nat.lt_succ_of_lt (Heap.lt_size e))) (Heap.get?_push_of_some _ (hH2 ▸ Heap.get?_push_of_some _ e))
  have hacc : h₁.get? acc = some (lstObj [] 0) := hsb₁.extBut _ _ (Ne.symm hne) (Heap.get?_push_of_some _ (hH2 ▸ hadef ▸ Heap.get?_push_size _ rfl))
  have free : ∀ b ∈ wr, g.W.n₀ ≤ b ∧ s.heap.get? b = none := fun b hb => ⟨(it.new b hb).1, by
    cases e : s.heap.get? b with
    | none => rfl
    | some o => have := hb1 b o (Fok.hiT g.ok (it.new b hb).1) e; rw [(it.new b hb).2] at this; cases this⟩
  have hfl2 := it.live 0 _ hst
  have haN : g.W.n₀ ≤ acc := hadef ▸ st.wd.sz g.ok
  have hCN : g.W.n₀ ≤ C := by rw [hCe]; exact Nat.le_succ_of_le haN
  have a2 : s2.heap.get? acc = none := none_of_le (hadef ▸ Nat.le_refl _)
  have C2 : s2.heap.get? C = none := none_of_le (hadef ▸ hCe ▸ Nat.le_succ _)
  have aS : s.heap.get? acc = none := st.free g.ok haN a2
  have CS : s.heap.get? C = none := st.free g.ok hCN C2
  have awr : acc ∉ wr := fun q => by obtain ⟨o, e⟩ := hfl2 _ q; rw [a2] at e; cases e
  have Cwr : C ∉ wr := fun q => by obtain ⟨o, e⟩ := hfl2 _ q; rw [C2] at e; cases e
  have aX : acc ∉ X := hf.xok.free aS
  have CX : C ∉ X := hf.xok.free CS
  have hf2 := hf.step g.ok st
  -- the state ahead of the loop
  generalize hs4 : ({ s2 with heap := h₁, toks := s2.toks + ([] : List (Str × Value)).length } : Shared) = s4
  have e4 : s4.heap = h₁ := by rw [← hs4]
  have st4 : Step g.W s s4 := by rw [← hs4]; exact st.grown g.ok old
  have old4 : ∀ b o, s2.heap.get? b = some o → s4.heap.get? b = some o := fun b o e => e4 ▸ old b o e
  have hcells : ∀ y c, cl.lookup y = some c → c ∈ X ∧ g.W.n₀ ≤ c ∧ (∃ v, s.heap.IsCell c v) ∧ c ∉ wr ∧ c ≠ acc ∧ c ≠ C := fun y c hy => by
    obtain ⟨c1, c2, v, o, e, dd⟩ := hf.cells y c (ok.sub y c hy)
    exact ⟨c1, c2, ⟨v, o, e, dd⟩, fun q => by rw [(free c q).2] at e; (cases e), fun q => aX (q ▸ c1), fun q => CX (q ▸ c1)⟩
  have hfc : Fok g.W (acc :: (wr ++ X)) (C :: acc :: (wr ++ X)) (compEnvC scope cl C env) s4.heap ρc := by
    have hf4 := hf.step g.ok st4
    refine ⟨ok.kind, fun a ha => .tail _ ha, hf.glob, hf.blt, fun a ha => .tail _ (List.mem_append.mpr (.inr (hf.T a ha))), fun a ha => ?_, fun a ha => ?_, ⟨.head _, hCN, fun q => ?_⟩, fun y c hy => ?_, fun y c q => (nomatch q), fun y z c hy hz => hf.cinj y z c (ok.sub y c hy) (ok.sub z c hz), ?_⟩
    · rcases List.mem_cons.mp ha with q0 | ha
      · rw [q0]; obtain ⟨o, _, _, e, _⟩ := hns₁
        exact ⟨o, e4 ▸ e⟩
      · rcases List.mem_cons.mp ha with q0 | ha
        · rw [q0]; exact ⟨_, e4 ▸ hacc⟩
        · rcases List.mem_append.mp ha with ha | ha
          · obtain ⟨o, e⟩ := hfl2 a ha
            exact ⟨o, old4 a o e⟩
          · exact hf4.live a ha
    · rcases List.mem_cons.mp ha with q0 | ha
      · rw [q0]; exact .inr hCN
      · rcases List.mem_cons.mp ha with q0 | ha
        · rw [q0]; exact .inr haN
        · exact (List.mem_append.mp ha).elim (fun h => .inr (free a h).1) (hf.hi a)
    · rcases List.mem_cons.mp q with q | q
      · exact hne q
      · exact (List.mem_append.mp q).elim Cwr CX
    · obtain ⟨c1, c2, ⟨v, o, e, dd⟩, _⟩ := hcells y c hy
      exact ⟨.tail _ (.tail _ (List.mem_append.mpr (.inr c1))), c2, v, o, st4.kp c o (Fok.hiT g.ok c2) e, dd⟩
    · refine ⟨_, e4 ▸ hns₁, fun y sl hy => ?_, fun y z es fs a b _ hy => ?_⟩
      · obtain ⟨d, c, rfl, h1, h2, h3, h4, h5⟩ := ok.free y sl hy
        obtain ⟨m, v, hn, av, kv⟩ := hf.load h1
        obtain ⟨c1, c2, _⟩ := hcells y c h4
        rcases av with ⟨k, _⟩ | ⟨_, c', hc', o, e, dd⟩
        · rw [h2] at k; cases k
        · rw [h3] at hc'; cases hc'
          refine ⟨v, .inr ⟨.inl h5, c, h4, o, st4.kp c o (Fok.hiT g.ok c2) e, dd⟩, ?_⟩
          refine Rd.mono (fun b o hb e => ⟨fun q => ?_, st4.kp b o (hf.X_T hb) e⟩) kv
          rcases List.mem_cons.mp q with q0 | q
          · rw [q0, CS] at e; cases e
          · rcases List.mem_cons.mp q with q0 | q
            · rw [q0, aS] at e; cases e
            · rcases List.mem_append.mp q with q | q
              · rw [(free b q).2] at e; cases e
              · exact hb q
      · obtain ⟨d, c, q, _⟩ := ok.free y _ hy
        cases q
  have st0 : St 0 s4.heap := it.fr _ _ _ hst fun b _ o e => old4 b o e
  have loop : codeAny (model g.prog g.w) A (.compLoop (.ListComp elt [⟨target, iter, ifs, 0⟩] scope pos) 0 I (.ref acc) (compEnvC scope cl C env)) (compPost (model g.prog g.w) A NoE use Q (.ref acc) C) s4 := by
    refine codeAny_compLoopT (fun k s' => ∃ i vs k', CInv g (compEnvC scope cl C env) C acc wr X ρc St out ds.length s4 k s' i vs k') ?_ (ds.length + 1)
      ⟨0, [], 0, rfl, Nat.zero_le _, ⟨fun _ _ _ _ e => e, st4.wd, .refl _, rfl⟩, hfc, st0, e4 ▸ hacc, ok.zero ▸ .nil⟩
    rintro k s' ⟨i, vs, k', rfl, hi, mv, hf', hst', ho, ra⟩
    have hcw : ∀ (l : List Addr), (∀ b ∈ l, b ∈ acc :: wr) → ∀ y c, (compEnvC scope cl C env).cells.lookup y = some c → c ∉ l := fun l hl y c hy q => by
      obtain ⟨_, _, _, h1, h2, _⟩ := hcells y c hy
      rcases List.mem_cons.mp (hl c q) with q | q
      · exact h2 q
      · exact h1 q
    have offB : ∀ b o, b ∉ X → base.get? b = some o → b ∉ C :: acc :: (wr ++ X) := fun b o hb e q => by
      rcases List.mem_cons.mp q with q0 | q
      · rw [q0] at e; rw [hb2 _ o e] at C2; cases C2
      · rcases List.mem_cons.mp q with q0 | q
        · rw [q0] at e; rw [hb2 _ o e] at a2; cases a2
        · rcases List.mem_append.mp q with q | q
          · rw [(it.new b q).2] at e; cases e
          · exact hb q
    have hbase : ∀ b o, b ∉ X → base.get? b = some o → s'.heap.get? b = some o := fun b o hb e => mv.kp b o (fun q => hb (hf.T b q)) (fun q => offB b o hb e (by
      rcases List.mem_cons.mp q with q0 | q
      · rw [q0]; exact .head _
      · rcases List.mem_cons.mp q with q0 | q
        · rw [q0]; exact .tail _ (.head _)
        · exact .tail _ (.tail _ (List.mem_append.mpr (.inl q))))) (old4 b o (hb2 b o e))
    have wrX : ∀ b ∈ wr, b ∈ acc :: (wr ++ X) := fun b hb => .tail _ (List.mem_append.mpr (.inl hb))
    by_cases hlt : i < ds.length
    · obtain ⟨ρ', b, hsub, hasg, htst, hb0, hb1'⟩ := ok.turn i _ (List.getElem?_eq_getElem hlt)
      refine wpAny_mono (it.next i A s' _ (List.getElem?_eq_getElem hlt) hA mv.wd hbase hst') (fun r s3 ⟨v, hr, h3⟩ => ?_) fun _ _ x => x.elim
      subst hr
      refine wpAny_mono h3 (fun _ s5 ⟨mv5, hst5, hrd⟩ => ?_) fun _ _ x => x.elim
      have hf5 := hf'.mv mv5 wrX (hcw wr fun b hb => .tail _ hb)
      have r5 := hrd (C :: acc :: (wr ++ X)) (fun b hb => hf'.live b hb) offB
      have ra5 := RdAll.mv (fun b hb => .tail _ (wrX b hb)) hf'.T mv5.toMvD ra
      have ho5 := mv5.kp acc _ (Fok.hiT g.ok haN) awr ho
      refine wpAny_mono (hasg C _ _ A s5 v hA mv5.wd hf5 r5) (fun _ s6 ⟨ss6, hf6⟩ => ?_) fun _ _ x => x.elim
      refine wpAny_mono (tests_run (htst C _ _) hA ss6.wd hf6) (fun okv s7 ⟨st7, hok⟩ => ?_) fun _ _ x => x.elim
      subst hok
      have hf7 := hf6.step g.ok st7
      have keep7 : ∀ b o, b ∈ acc :: (wr ++ X) → g.W.n₀ ≤ b → s5.heap.get? b = some o → s7.heap.get? b = some o := fun b o hb hn e => st7.kp b o (Fok.hiT g.ok hn) (ss6.kp b o (Fok.hiT g.ok hn) (fun _ => hb) e)
      have mv7 : MvD g.W (C :: acc :: wr) s4 s7 := by
        refine ⟨fun b o ht hb e => ?_, st7.wd, (mv.gk.trans mv5.gk).trans (ss6.gk.trans st7.gk), (st7.os.trans ss6.os).trans (mv5.os.trans mv.os)⟩
        have e5 := mv5.kp b o ht (fun q => hb (.tail _ (.tail _ q))) (mv.kp b o ht hb e)
        refine st7.kp b o ht (ss6.kp b o ht (fun q => ?_) e5)
        rcases List.mem_cons.mp q with q0 | q
        · exact (hb (q0 ▸ .head _)).elim
        · exact q
      have hst7 : St (i + 1) s7.heap := it.fr _ _ _ hst5 fun b hb o e => keep7 b o (wrX b hb) (free b hb).1 e
      have ho7 := keep7 acc _ (.head _) haN ho5
      have ra7 := RdAll.step hf6.T st7 (ra5.ss hf'.T ss6)
      cases okv with
      | false =>
        rw [if_neg Bool.false_ne_true]
        exact ⟨ds.length + 1 - (i + 1), ar_dec hlt, i + 1, vs, k', rfl, hlt, mv7, hf7.sub hsub, hst7, ho7, hb0 rfl ▸ ra7⟩
      | true =>
        rw [if_pos rfl]
        obtain ⟨d', hout, hev⟩ := hb1' rfl
        refine wpAny_mono ((hev C _ _).run A s7 hA st7.wd hf7) (fun u s8 ⟨st8, r8⟩ => ?_) fun _ _ x => x.elim
        have hf8 := hf7.step g.ok st8
        have ho8 := st8.kp acc _ (Fok.hiT g.ok haN) ho7
        refine wpAny_mono (mut_append (d := d') (ok.sz i hi) _ A s8 acc vs k' [u] hA st8.wd hf8.xok ho8 (ra7.step hf7.T st8) (.cons r8 .nil)) (fun _ s9 ⟨_, h', tk, vs', k'', e9, hb9, ho9, ra9⟩ => ?_) fun _ _ x => x.elim
        subst e9
        have mva : Mv g.W [acc] s8 { s8 with heap := h', toks := tk } := mv_one st8.wd haN hb9.extBut ⟨_, ho9⟩
        have hf9 := hf8.mv mva (fun b hb => by rw [List.mem_singleton.mp hb]; exact .head _) (hcw [acc] fun b hb => by rw [List.mem_singleton.mp hb]; exact .head _)
        refine ⟨ds.length + 1 - (i + 1), ar_dec hlt, i + 1, vs', k'', rfl, hlt, ⟨fun b o ht hb e => mva.kp b o ht (fun q => hb (.tail _ (by rw [List.mem_singleton.mp q]; exact .head _))) (st8.kp b o ht (mv7.kp b o ht hb e)), mva.wd, mv7.gk.trans st8.gk, st8.os.trans mv7.os⟩, hf9.sub hsub, ?_, ho9, hout ▸ RdAll.but (.tail _ (.head _)) hb9 ra9⟩
        exact it.fr _ _ _ hst7 fun b hb o e => mva.kp b o (Fok.hiT g.ok (free b hb).1) (fun q => awr (List.mem_singleton.mp q ▸ hb)) (st8.kp b o (Fok.hiT g.ok (free b hb).1) e)
    · have hin : i = ds.length := ar_eq hi hlt
      subst hin
      refine wpAny_mono (it.done A s' hA mv.wd hbase hst') (fun r s3 ⟨hr, mv3⟩ => ?_) fun _ _ x => x.elim
      subst hr
      obtain ⟨m, hn, _⟩ := hf'.ns
      have hn3 : s3.heap.Ns C m := hn.at' fun o e => mv3.kp C o (Fok.hiT g.ok hCN) Cwr e
      refine fin C acc s3 ⟨⟨fun b o ht e => ?_, mv3.wd, (st4.gk.trans mv.gk).trans mv3.gk, (mv3.os.trans mv.os).trans st4.os⟩, ⟨m, hn3⟩, ⟨vs, k', mv3.kp acc _ (Fok.hiT g.ok haN) awr ho, ?_⟩, ⟨hCN, CS⟩, ⟨haN, aS⟩, hne⟩
      · refine mv3.kp b o ht (fun q => ?_) (mv.kp b o ht (fun q => ?_) (st4.kp b o ht e))
        · rw [(free b q).2] at e; cases e
        · rcases List.mem_cons.mp q with q0 | q
          · rw [q0, CS] at e; cases e
          · rcases List.mem_cons.mp q with q0 | q
            · rw [q0, aS] at e; cases e
            · rw [(free b q).2] at e; cases e
      · refine (RdAll.mv (fun b hb => .tail _ (wrX b hb)) hf'.T mv3 ra).mono fun b o hb e => ⟨fun q => hb ?_, e⟩
        rcases List.mem_cons.mp q with q0 | q
        · rw [q0]; exact .head _
        · rcases List.mem_cons.mp q with q0 | q
          · rw [q0]; exact .tail _ (.head _)
          · exact .tail _ (.tail _ (List.mem_append.mpr (.inr q)))
  subst hs4
  exact codeAny_compStart_list loop (wpAny_mono (it.self 0 A _ _ st0 loop) (fun _ _ x => x) fun _ _ x => x.elim)

theorem EvL.comp {out : Nat → List PyData} (hit : EvI g n target X₀ X env ρ iter ds) (ok : CompOk g n env ρ ρc elt target ifs scope cl ds out) (hs : ∀ x, foldedSetIterable iter env x = pure x := by intro _; rfl) :
    EvL g n X₀ X env ρ (.ListComp elt [⟨target, iter, ifs, 0⟩] scope pos) (out ds.length) := .mk fun A s hA hw hf => by
  rw [eval_ListComp]
  refine comp_core hit ok hA hw hf (fun C acc s5 ce => ?_) hs
  obtain ⟨m, hn⟩ := ce.ns
  obtain ⟨vs, k, ho, ra⟩ := ce.o
  refine ⟨m, hn, fun h' hb => ⟨⟨fun b o ht e => hb.extBut b o (fun q => by rw [q, ce.hC.2] at e; cases e) (ce.st.kp b o ht e), ce.st.wd.keep g.ok fun b o hlt e => hb.extBut b o (Nat.ne_of_lt (Nat.lt_of_lt_of_le hlt ce.hC.1)) e, ce.st.gk, ce.st.os⟩, acc, vs, k, rfl, ce.ha.1, ce.ha.2, hb.extBut acc _ (Ne.symm ce.ne) ho, ra.mono fun b o hx e => ⟨fun q => hx (.tail _ q), hb.extBut b o (fun q => hx (q ▸ .head _)) e⟩⟩⟩

theorem Ex1.comp {out : Nat → List PyData} {spos xp : Pos} (hk : Kn env x) (hit : ∀ X, EvI g n target X₀ X env ρ iter ds) (ok : CompOk g n env ρ ρc elt target ifs scope cl ds out) (hp : P .next ((x, .own (out ds.length)) :: ρ)) (hs : ∀ x, foldedSetIterable iter env x = pure x := by intro _; rfl)
    (hsw : swapsWith (.ListComp elt [⟨target, iter, ifs, 0⟩] scope pos) (some (.Name x xp)) spos.line env = pure true := by rfl) : Ex1 g n X₀ env ρ (.Assign [.Name x xp] (.ListComp elt [⟨target, iter, ifs, 0⟩] scope pos) spos) P := .mk fun X A s hA hw hf => by
  rw [exec_Assign_Name_used _ _ _ _ hsw]
  refine wpAny_bind (wpAny_standAt (wpAny_bind ?_))
  show wpAny _ A (comprehension _ scope env _ (newList []) false (eval iter env) (some _) >>= _) _ _ s
  refine wpAny_bind (comp_core (hit X) ok hA hw hf (fun C acc s5 ce => ?_) hs)
  obtain ⟨mC, hnC⟩ := ce.ns
  obtain ⟨vs, k, ho, ra⟩ := ce.o
  have live : ∀ b ∈ [C, acc], ∃ o, s5.heap.get? b = some o := fun b hb => by
    rcases List.mem_cons.mp hb with q0 | hb
    · rw [q0]; obtain ⟨o, _, _, e, _⟩ := hnC
      exact ⟨o, e⟩
    · rw [List.mem_singleton.mp hb]; exact ⟨_, ho⟩
  have new : ∀ b ∈ [C, acc], g.W.n₀ ≤ b ∧ s.heap.get? b = none := fun b hb => by
    rcases List.mem_cons.mp hb with q0 | hb
    · rw [q0]; exact ce.hC
    · rw [List.mem_singleton.mp hb]; exact ce.ha
  have aX : acc ∉ X := hf.xok.free ce.ha.2
  have CX : C ∉ X := hf.xok.free ce.hC.2
  have hfe : Fok g.W (C :: X₀) (C :: acc :: X) env s5.heap ρ := (hf.ext (wr := [C, acc]) ce.st new live).less (fun a ha => by
    rcases List.mem_cons.mp ha with q0 | ha
    · rw [q0]; exact .head _
    · exact .tail _ (.tail _ ha)) fun a ha => .tail _ (hf.T0 a ha)
  have ss5 : SS g.W X₀ X (C :: acc :: X) s s5 := ⟨fun b o ht _ e => ce.st.kp b o ht e, fun b hb => by
    rcases List.mem_cons.mp hb with q0 | hb
    · rw [q0]; exact .inr ce.hC.2
    · rcases List.mem_cons.mp hb with q0 | hb
      · rw [q0]; exact .inr ce.ha.2
      · exact .inl hb, hf.T, ce.st.wd, ce.st.gk, ce.st.os⟩
  refine wpAny_assign_Name (store ce.st.wd hfe hk (sl := .own (out ds.length)) ⟨acc, vs, k, rfl, .tail _ (.head _), ⟨ce.ha.1, fun q => ?_⟩, ho, ra⟩ (fun m y es a' b ds' _ hn' q hne hy ab => ?_) fun s6 ss6 hf6 => ?_)
  · rcases List.mem_cons.mp q with q | q
    · exact ce.ne q.symm
    · exact aX (hf.X0 _ q)
  · cases q
    rintro rfl
    obtain ⟨m1, v1, hn1, a1, k1⟩ := (hf.step g.ok ce.st).load hy
    have hmm : m1 = m := funext fun z => hn1.agree hn' z
    subst hmm
    have := a1.same ab
    subst this
    obtain ⟨b', _, _, e1, e2, _⟩ := k1
    cases e1
    exact aX e2
  · have hn6 : s6.heap.Ns C mC := hnC.at' fun o e => ss6.kp C o (Fok.hiT g.ok ce.hC.1) (fun _ => .head _) e
    refine ⟨mC, hn6, fun h' hb => wpAny_pure (wpAny_pure ?_)⟩
    have mv : MvD g.W [C] s6 { s6 with heap := h' } := mv_d ss6.wd ce.hC.1 (.head _) hb.extBut
    have hf7 : Fok g.W X₀ ((C :: acc :: X).filter (· ∉ [C])) env h' ((x, .own (out ds.length)) :: ρ) := Fok.drop (wr := [C]) hf6 mv hf.T0 (fun b hb => by rw [List.mem_singleton.mp hb]; exact ⟨ce.hC.1, fun q => CX (hf.X0 _ q)⟩) fun y c hy q => by
      rw [List.mem_singleton.mp q] at hy
      exact CX (hf.cells y C hy).1
    have ssC : SS g.W X₀ (C :: acc :: X) (C :: acc :: X) s6 { s6 with heap := h' } := mv.ss (fun b hb => by rw [List.mem_singleton.mp hb]; exact ⟨.head _, fun q => CX (hf.X0 _ q)⟩) fun b hb => .tail _ (.tail _ (hf.T b hb))
    have ssA := (ss5.trans (ss6.less fun a ha => .tail _ ha)).trans ssC
    exact ⟨_, _, .next, ⟨ssA.kp, fun b hb => ssA.nx b (List.mem_filter.mp hb).1, ssA.tx, ssA.wd, ssA.gk, ssA.os⟩, hf7, trivial, hp⟩

theorem closureNil {env : Env} {scope : Scope} (h : ∀ x ∈ scope.names, x.2 ≠ .free) : closureFor scope env = pure [] := closureFor_none h

/-- a comprehension over a list given by a plain function -/
theorem CompOk.map {α : Type} {xs : List α} {inj F : α → PyData} {q : α → Bool} (clos : closureFor scope env = pure cl) (sub : ∀ x c, cl.lookup x = some c → env.cells.lookup x = some c) (kind : scope.kind = .function)
    (names : ∀ y ∈ scope.names, y.2 = .local → scope.names.lookup y.1 = some .local) (cell : ∀ y ∈ scope.names, y.2 ≠ .cell) (free : FreeOk env scope cl ρ ρc) (sz : xs.length ≤ sizeLine)
    (turn : ∀ a ∈ xs, ∃ ρ', Sub ρc ρ' ∧ (∀ C X₁, Asg g n X₁ (compEnvC scope cl C env) target (inj a) ρc ρ') ∧ (∀ C X₁ X, Tests g n X₁ X (compEnvC scope cl C env) ρ' ifs (q a)) ∧ (q a = true → ∀ C X₁ X, Ev g n X₁ X (compEnvC scope cl C env) ρ' elt (F a))) :
    CompOk g n env ρ ρc elt target ifs scope cl (xs.map inj) (fun i => ((xs.take i).filter q).map F) := by
  refine ⟨clos, sub, kind, names, cell, free, fun i d hd => ?_, rfl, fun i hi => ?_⟩
  · rw [List.getElem?_map] at hd
    cases ha : xs[i]? with
    | none => rw [ha] at hd; cases hd
    | some a =>
      rw [ha] at hd
      cases hd
      obtain ⟨ρ', h1, h2, h3, h4⟩ := turn a (List.mem_of_getElem? ha)
      refine ⟨ρ', q a, h1, h2, h3, fun hq => ?_, fun hq => ⟨F a, ?_, h4 hq⟩⟩
      · rw [List.take_add_one, ha]; simp [hq]
      · rw [List.take_add_one, ha]; simp [hq]
  · rw [List.length_map]
    exact Nat.le_trans (List.length_filter_le _ _) (Nat.le_trans (by rw [List.length_take]; exact Nat.min_le_right _ _) sz)
theorem EvL.compMap {α : Type} {xs : List α} {inj F : α → PyData} {q : α → Bool} (hit : EvI g n target X₀ X env ρ iter (xs.map inj)) (ok : CompOk g n env ρ ρc elt target ifs scope cl (xs.map inj) (fun i => ((xs.take i).filter q).map F)) (hs : ∀ x, foldedSetIterable iter env x = pure x := by intro _; rfl) :
    EvL g n X₀ X env ρ (.ListComp elt [⟨target, iter, ifs, 0⟩] scope pos) ((xs.filter q).map F) := by
  have := EvL.comp (pos := pos) hit ok hs
  simpa using this
theorem Ex1.compMap {α : Type} {xs : List α} {inj F : α → PyData} {q : α → Bool} {spos xp : Pos} (hk : Kn env x) (hit : ∀ X, EvI g n target X₀ X env ρ iter (xs.map inj)) (ok : CompOk g n env ρ ρc elt target ifs scope cl (xs.map inj) (fun i => ((xs.take i).filter q).map F)) (hp : P .next ((x, .own ((xs.filter q).map F)) :: ρ)) (hs : ∀ x, foldedSetIterable iter env x = pure x := by intro _; rfl)
    (hsw : swapsWith (.ListComp elt [⟨target, iter, ifs, 0⟩] scope pos) (some (.Name x xp)) spos.line env = pure true := by rfl) : Ex1 g n X₀ env ρ (.Assign [.Name x xp] (.ListComp elt [⟨target, iter, ifs, 0⟩] scope pos) spos) P :=
  Ex1.comp hk hit ok (by simpa using hp) hs hsw
end
end Mine
set_option Elab.async false
set_option maxRecDepth 100000
set_option linter.unusedVariables false
set_option tactic.hygienic false
namespace Mine
open PySem PyProof.Rows

theorem bindL_off {k : Str → Option NameKind} {x : Str} : ∀ {bs : List (Str × Value)} {m : Str → Option Value}, (∀ p ∈ bs, p.1 ≠ x) → bindL k bs m x = m x
  | [], m, _ => rfl
  | (n, v) :: r, m, h => by
    have hx : x ≠ n := fun q => h (n, v) (.head _) q.symm
    rw [bindL, bindL_off fun p hp => h p (.tail _ hp)]
    split
    · simp [hx]
    · rfl
theorem bindC_off {k : Str → Option NameKind} {x : Str} : ∀ {bs : List (Str × Value)} {m : Str → Option Value}, (∀ p ∈ bs, p.1 ≠ x) → bindC k bs m x = m x
  | [], m, _ => rfl
  | (n, v) :: r, m, h => by
    have hx : x ≠ n := fun q => h (n, v) (.head _) q.symm
    rw [bindC, bindC_off fun p hp => h p (.tail _ hp)]
    split
    · rfl
    · simp [hx]
theorem zip_names {ps : List Str} {vs : List Value} {p : Str × Value} (h : p ∈ ps.zip vs) : p.1 ∈ ps := (List.of_mem_zip (a := p.1) (b := p.2) h).1
theorem bind_get {k : Str → Option NameKind} {x : Str} {v : Value} : ∀ {ps : List Str} {vs : List Value} {m cm : Str → Option Value}, ps.Nodup → (ps.zip vs).lookup x = some v →
    (k x = some .local → bindL k (ps.zip vs) m x = some v) ∧ (k x ≠ some .local → bindC k (ps.zip vs) cm x = some v)
  | [], vs, m, cm, _, h => by simp at h
  | p :: ps, [], m, cm, _, h => by simp at h
  | p :: ps, u :: vs, m, cm, hn, h => by
    obtain ⟨h1, h2⟩ := List.nodup_cons.mp hn
    rw [List.zip_cons_cons, List.lookup_cons] at h
    split at h
    · rename_i e
      have e := beq_iff_eq.mp e
      subst e
      cases h
      have off : ∀ q ∈ ps.zip vs, q.1 ≠ x := fun q hq e => h1 (e ▸ zip_names hq)
      refine ⟨fun hk => ?_, fun hk => ?_⟩
      · rw [List.zip_cons_cons, bindL, bindL_off off, if_pos hk]; simp
      · rw [List.zip_cons_cons, bindC, bindC_off off, if_neg hk]; simp
    · rw [List.zip_cons_cons, bindL, bindC]
      exact bind_get h2 h

noncomputable def fzs (ps : List Str) (ds : List PyData) : Rho := ps.zip (ds.map VSlot.fz)
theorem fzs_get {X : List Addr} {h : Heap} {x : Str} {sl : VSlot} : ∀ {ps : List Str} {vs : List Value} {ds : List PyData}, RdAll X h vs ds → (fzs ps ds).lookup x = some sl → ∃ v d, (ps.zip vs).lookup x = some v ∧ sl = .fz d ∧ Rd X h v d
  | [], vs, ds, r, e => by simp [fzs] at e
  | p :: ps, vs, ds, r, e => by
    cases r with
    | nil => simp [fzs] at e
    | cons a b =>
      rw [fzs, List.map_cons, List.zip_cons_cons, List.lookup_cons] at e
      rw [List.zip_cons_cons, List.lookup_cons]
      split at e
      · cases e; exact ⟨_, _, rfl, rfl, a⟩
      · exact fzs_get b e
theorem lookup_mem {α : Type} {x : Str} {c : α} : ∀ {l : List (Str × α)}, l.lookup x = some c → (x, c) ∈ l
  | [], h => by simp at h
  | (y, d) :: l, h => by
    rw [List.lookup_cons] at h
    split at h
    · rename_i e; cases h; rw [beq_iff_eq.mp e]; exact .head _
    · exact .tail _ (lookup_mem h)
theorem apart_inj {x y : Str} {c : Addr} : ∀ {l : List (Str × Addr)}, l.Pairwise (fun x y => x.2 ≠ y.2) → (x, c) ∈ l → (y, c) ∈ l → x = y
  | [], _, h, _ => nomatch h
  | p :: l, hp, h1, h2 => by
    obtain ⟨a, b⟩ := List.pairwise_cons.mp hp
    rcases List.mem_cons.mp h1 with e1 | h1 <;> rcases List.mem_cons.mp h2 with e2 | h2
    · rw [← e1] at e2; exact (congrArg (·.1) e2).symm
    · exact (a _ h2 (by rw [← e1])).elim
    · exact (a _ h1 (by rw [← e2])).elim
    · exact apart_inj b h1 h2

/-- a function of the top: its body shown, its contract holds -/
theorem Calls.fn {g : G} {n : Nat} {a : Addr} {ob : Obj} {fd : FuncData} {body : List Stmt} {ps : List Str} {dvs : List Value} {ds dds : List PyData} {d : PyData}
    (hK : (a, ob) ∈ g.W.K) (hfd : ob.data = .func fd) (hbody : fd.body = .stmts body) (hcode : ∃ c oc vs t, fd.code = .ref c ∧ (c, oc) ∈ g.W.K ∧ oc.data = .fields vs ∧ vs[1]? = some (.str fd.qualname t))
    (hbind : ∀ s vs, Wd g.W s.heap → vs.length = ds.length → BindsTo s fd ⟨vs, []⟩ (ps.zip (vs ++ dvs))) (hdv : Kds g dvs dds) (hnd : ps.Nodup)
    (hkind : ∀ L : Addr, ∀ p ∈ ps, fd.scope.names.lookup p = some .local ∨ (fd.scope.names.lookup p = some .cell ∧ ((cellsFrom (L + 1) fd.scope.names []).lookup p).isSome = true))
    (hx : ∀ L X₀, Ex g n X₀ (callEnvC fd L a) (fzs ps (ds ++ dds)) body (fun f _ => f = .ret d))
    (hclo : fd.closure = [] := by rfl) (hglob : fd.globals = mainGlobals := by rfl) (hblt : fd.builtins = builtinsNs := by rfl) (hco : fd.scope.isCoroutine = false := by rfl) (hgen : fd.scope.isGenerator = false := by rfl) (hk : fd.scope.kind = .function := by rfl) : Calls g (n + 1) (.ref a) ds d := fun X A s vs hA hw hX r => by
  refine wpAny_call ?_
  obtain ⟨c, oc, cvs, t, e1, e2, e3, e4⟩ := hcode
  refine codeAny_call_function hA.room (hw.k _ hK) hfd hco hgen hbody ⟨c, oc, cvs, t, e1, hw.k _ e2, e3, e4⟩ (hbind s vs hw r.length _ _ _ _ ?_)
  rw [hclo]
  have hlen := r.length
  refine wpAny_newFunctionEnv_cells hk (fun p hp => hkind _ p.1 (zip_names hp)) fun env he s1 ic => ?_
  subst he
  refine ⟨hw.nl.keeps ic.toInCall.keep, codeAny_func ?_⟩
  show wpAny _ (A.deeper (callEnvC fd s.heap.objs.size a)) (execs body (callEnvC fd s.heap.objs.size a)) _ _ s1
  generalize hL : s.heap.objs.size = L at ic ⊢
  have hLn : g.W.n₀ ≤ L := hL ▸ hw.sz g.ok
  obtain ⟨⟨⟨h1, tk1, hs1⟩, hns, hkeep, _⟩, hcell, hap, habove⟩ := ic
  have st : Step g.W s s1 := by
    subst hs1
    exact (Step.refl hw).grown g.ok hkeep
  have fresh : ∀ b : Addr, L ≤ b → s.heap.get? b = none := fun b hb => none_of_le (hL ▸ hb)
  have offX : ∀ b : Addr, L ≤ b → b ∉ X := fun b hb => hX.free (fresh b hb)
  have hX1 := hX.step g.ok st
  have habove : ∀ x c, (x, c) ∈ cellsFrom (L + 1) fd.scope.names [] → L < c := habove
  obtain ⟨cl, hcl⟩ : ∃ cl, cellsFrom (L + 1) fd.scope.names [] = cl := ⟨_, rfl⟩
  rw [hcl] at habove
  have hap : _ := hcl ▸ hap
  have hcl' : (callEnvC fd L a).cells = cl := hcl
  have hcell2 : ∀ x c, cl.lookup x = some c → s1.heap.IsCell c (bindC (callEnvC fd L a).kindOf (ps.zip (vs ++ dvs)) (fun _ => none) x) := by rw [← hcl]; exact hcell
  have inC : ∀ b, b ∈ (cl.map (·.1)).filterMap (fun x => cl.lookup x) ↔ ∃ x, cl.lookup x = some b := fun b => by
    rw [List.mem_filterMap]
    refine ⟨fun ⟨x, _, h⟩ => ⟨x, h⟩, fun ⟨x, h⟩ => ⟨x, List.mem_map.mpr ⟨_, lookup_mem h, rfl⟩, h⟩⟩
  generalize hC : (cl.map (·.1)).filterMap (fun x => cl.lookup x) = C at inC
  have inX : ∀ b, b ∈ L :: (C ++ X) → L ≤ b ∨ b ∈ X := fun b hb => by
    rcases List.mem_cons.mp hb with q0 | hb
    · rw [q0]; exact .inl (Nat.le_refl _)
    · rcases List.mem_append.mp hb with hb | hb
      · obtain ⟨x, hx⟩ := (inC b).mp hb
        exact .inl (Nat.le_of_lt (habove x b (lookup_mem hx)))
      · exact .inr hb
  have live1 : ∀ b ∈ L :: (C ++ X), ∃ o, s1.heap.get? b = some o := fun b hb => by
    rcases List.mem_cons.mp hb with q0 | hb
    · rw [q0]; obtain ⟨o, _, _, e, _⟩ := hns
      exact ⟨o, e⟩
    · rcases List.mem_append.mp hb with hb | hb
      · obtain ⟨x, hx⟩ := (inC b).mp hb
        obtain ⟨o, e, _⟩ := hcell2 x b hx
        exact ⟨o, e⟩
      · exact hX1.live b hb
  have hi1 : ∀ b ∈ L :: (C ++ X), b ∈ g.W.T ∨ g.W.n₀ ≤ b := fun b hb => by
    rcases inX b hb with h | h
    · exact .inr (Nat.le_trans hLn h)
    · exact hX.hi b h
  have T1 : ∀ b ∈ g.W.T, b ∈ L :: (C ++ X) := fun b hb => .tail _ (List.mem_append.mpr (.inr (hX.T b hb)))
  have ra : RdAll (L :: (C ++ X)) s1.heap (vs ++ dvs) (ds ++ dds) := by
    refine RdAll.append (r.mono fun b o hb e => ⟨fun q => ?_, st.kp b o (fun q => hb (hX.T b q)) e⟩) (hdv _ _ st.wd ⟨T1, live1, hi1⟩)
    rcases inX b q with h | h
    · rw [fresh b h] at e; cases e
    · exact hb h
  have hf : Fok g.W X (L :: (C ++ X)) (callEnvC fd L a) s1.heap (fzs ps (ds ++ dds)) := by
    refine ⟨hk, fun b hb => .tail _ (List.mem_append.mpr (.inr hb)), hglob, hblt, hX.T, live1, hi1, ⟨.head _, hLn, offX L (Nat.le_refl _)⟩, fun x c hc => ?_, fun x c _ hc => ?_, fun x y c hx hy => apart_inj (l := cl) hap (lookup_mem (hcl' ▸ hx)) (lookup_mem (hcl' ▸ hy)), _, hns, fun x sl hx => ?_, fun x y ds' es a b _ hx => ?_⟩
    · have hc' : cl.lookup x = some c := hcl' ▸ hc
      exact ⟨.tail _ (List.mem_append.mpr (.inl ((inC c).mpr ⟨x, hc'⟩))), Nat.le_trans hLn (Nat.le_of_lt (habove x c (lookup_mem hc'))), _, hcell2 x c hc'⟩
    · have hc' : cl.lookup x = some c := hcl' ▸ hc
      exact offX c (Nat.le_of_lt (habove x c (lookup_mem hc')))
    · obtain ⟨v, d', hv, rfl, rv⟩ := fzs_get ra hx
      refine ⟨v, ?_, rv⟩
      have hp : x ∈ ps := zip_names (lookup_mem hv)
      obtain ⟨b1, b2⟩ := bind_get (k := (callEnvC fd L a).kindOf) (m := fun _ => none) (cm := fun _ => none) hnd hv
      rcases hkind L x hp with h | ⟨h, h'⟩
      · exact .inl ⟨h, b1 h⟩
      · obtain ⟨c, hc⟩ := Option.isSome_iff_exists.mp h'
        have hc2 : (callEnvC fd L a).cells.lookup x = some c := hcl'.symm ▸ (hcl ▸ hc)
        refine .inr ⟨.inl h, c, hc2, ?_⟩
        have := hcell2 x c (hcl ▸ hc)
        rw [show bindC (callEnvC fd L a).kindOf (ps.zip (vs ++ dvs)) (fun _ => none) x = some v from b2 (by rw [show (callEnvC fd L a).kindOf x = some .cell from h]; intro q; cases q)] at this
        exact this
    · obtain ⟨v, d', _, q, _⟩ := fzs_get ra hx
      cases q
  refine wpAny_mono ((hx L X).run _ _ s1 (hA.deeper _) st.wd hf) (fun fl s' ⟨X', ρ', f, ss, hf', hfl, hp⟩ => ?_) fun _ _ x => x.elim
  subst hp
  cases fl with
  | ret v =>
    refine ⟨⟨fun b o ht e => ss.kp b o ht (fun q => ?_) (st.kp b o ht e), ss.wd, st.gk.trans ss.gk, ss.os.trans st.os⟩, Rd.mono (fun b o hb e => ⟨fun q => hb (hf'.X0 b q), e⟩) hfl⟩
    rcases inX b q with h | h
    · rw [fresh b h] at e; cases e
    · exact h
  | _ => exact hfl.elim
end Mine
set_option Elab.async false
set_option maxRecDepth 100000
set_option linter.unusedVariables false
set_option tactic.hygienic false
namespace Mine
open PySem PyProof.Rows Builtin Builtin.Str Builtin.Float

noncomputable def FmtB (g : G) (n : Nat) (d : PyData) (sp out : PySem.Str) : Prop :=
  ∀ X A s v, AOK n A → Wd g.W s.heap → Rd X s.heap v d → wpAny (model g.prog g.w) A (formatField v sp) (fun r s' => Step g.W s s' ∧ ∃ t, r = .str out t) NoE s

section
variable {g : G} {n : Nat} {X₀ X : List Addr} {env : Env} {ρ : Rho} {e v₁ v₂ value spec : PySem.Expr} {es rest : List PySem.Expr} {d : PyData} {x y sp : PySem.Str} {xs : List PySem.Str} {pos : Pos} {a : Int}

theorem Wd.noDigits {W : WC} {h : Heap} (w : Wd W h) : h.NoDigits := w.nd
theorem fmt_str0 (h : x.length ≤ sizeLine) : FmtB g n (.str x) Str.empty x := fun X A s v hA hw r => by
  obtain ⟨t, rfl⟩ := r.str_inv
  exact formatField_str (fun t' k => ⟨(Step.refl hw).toks, t', rfl⟩) h
theorem fmt_int0 (h : a.natAbs.log2 < 1920) : FmtB g n (.int a) Str.empty (Str.ofString (toString a)) := fun X A s v hA hw r => by
  obtain ⟨t, rfl⟩ := r.int_inv
  exact formatField_int_small h ⟨(Step.refl hw).toks, _, rfl⟩
theorem fmt_int (h : a.natAbs < 10 ^ 4300) (hok : intSpecOk sp = true) (hsz : sp.length ≤ sizeLine) : FmtB g n (.int a) sp (intSpecTextOf sp a) := fun X A s v hA hw r => by
  obtain ⟨t, rfl⟩ := r.int_inv
  exact formatField_int_specOf hw.noDigits h hok (fun W _ _ => ⟨(Step.refl hw).toks, _, rfl⟩) hsz

noncomputable def fSpec (al w : Nat) : FormatSpec := { align := al, width := some w, type := some 115 }
theorem strSub_all (x : PySem.Str) : strSub x 0 x.length = x := by
  unfold strSub
  obtain ⟨c⟩ := x
  simp [PySem.Str.length]
theorem strField_spec {al w : Nat} (hal : al = 60 ∨ al = 62) : strField x (fSpec al w) "str" = .ok (if w ≤ x.length then none else some (if al = 60 then padded x 0 (w - x.length) 32 else padded x (w - x.length) 0 32)) := by
  unfold strField fSpec
  rcases hal with rfl | rfl
  · by_cases h : w ≤ x.length
    · simp [h]; rfl
    · simp [h, strSub_all]; rfl
  · by_cases h : w ≤ x.length
    · simp [h]; rfl
    · simp [h, strSub_all]; rfl
theorem fmt_meets {t : Tok} {al w : Nat} (hal : al = 60 ∨ al = 62) (hw : w ≤ 4096) (hx : x.length ≤ 65536) (hne : (sp.length == 0) = false)
    (hasc : ((sp.cps.toList.drop 1).any (· ≥ 128) || (sp.cps.getD 0 0 ≥ 128 && !([60, 62, 61, 94] : List Nat).contains (sp.cps.getD 1 0))) = false)
    (hp : parseFormatSpec sp.cps.toList "str" 60 = .ok (fSpec al w)) (u : Tok) :
    Meets («str.__format__» ⟨[.str x t, .str sp u], []⟩) (fun _ R s => ∀ t' k, R (.ok (.ret (.str (if al = 60 then Txt.ljust x w else Txt.rjust x w) t'))) { s with toks := k }) :=
  .of_wp fun prog w' A R s h => by
    unfold Builtin.«str.__format__»
    refine wpAny_bind (wpAny_of_eq (a := (_, _, _)) rfl ?_)
    refine wpAny_bind (wpAny_of_eq (a := some _) rfl ?_)
    try dsimp only
    rw [hne]
    simp only [Bool.false_eq_true, if_false]
    rw [hasc]
    simp only [Bool.false_eq_true, if_false]
    refine wpAny_bind (W.KXf.cut_str ?_)
    rw [hp]
    have ht : tooLong w = false := by unfold tooLong; simp [sizeLine]; lia
    have e : (do
      let f ← (Except.ok (fSpec al w) : Except String FormatSpec)
      if tooLong ((if (f.type.isNone && sp.cps.back? == some 0) = true then { f with type := some 0 } else f).width.getD 0) = true then pure none
      else do
        let r ← strField x (if (f.type.isNone && sp.cps.back? == some 0) = true then { f with type := some 0 } else f) "str"
        pure (some r) : Except String (Option (Option PySem.Str))) = .ok (some (if w ≤ x.length then none else some (if al = 60 then padded x 0 (w - x.length) 32 else padded x (w - x.length) 0 32))) := by
      show (if tooLong ((if (false && sp.cps.back? == some 0) = true then _ else fSpec al w).width.getD 0) = true then _ else _) = _
      simp only [Bool.false_and, Bool.false_eq_true, if_false]
      show (if tooLong w = true then _ else _) = _
      rw [ht, if_neg Bool.false_ne_true]
      show (strField x (fSpec al w) "str" >>= _) = _
      rw [strField_spec hal]; rfl
    rw [e]
    have hL : ∀ l r, l + r ≤ 4096 → (padded x l r 32).length ≤ sizeLine := fun l r hlr => by
      show (padded x l r 32).length ≤ 16777216
      unfold padded
      simp [PySem.Str.length] at hx ⊢
      lia
    by_cases hwx : w ≤ x.length
    · rw [if_pos hwx]
      refine wpAny_bind (wpAny_rule (W.KXf.ret_same rfl fun t' k => ⟨_, rfl, ?_⟩))
      have e2 : (if al = 60 then Txt.ljust x (w : Int) else Txt.rjust x (w : Int)) = x := by
        simp [Txt.ljust, Txt.rjust, hwx]
      exact e2 ▸ h t' k
    · rw [if_neg hwx]
      have e2 : (if al = 60 then padded x 0 (w - x.length) 32 else padded x (w - x.length) 0 32) = (if al = 60 then Txt.ljust x (w : Int) else Txt.rjust x (w : Int)) := by
        simp [Txt.ljust, Txt.rjust, hwx]
      refine W.KXf.ret_text e2 ?_ fun t' k => ⟨_, rfl, h t' k⟩
      split
      · exact hL _ _ (by lia)
      · exact hL _ _ (by lia)
theorem fmt_strL {w : Nat} (hw : w ≤ 4096) (hx : x.length ≤ 65536) (hne : (sp.length == 0) = false)
    (hasc : ((sp.cps.toList.drop 1).any (· ≥ 128) || (sp.cps.getD 0 0 ≥ 128 && !([60, 62, 61, 94] : List Nat).contains (sp.cps.getD 1 0))) = false)
    (hp : parseFormatSpec sp.cps.toList "str" 60 = .ok (fSpec 60 w)) (hsz : sp.length ≤ sizeLine) : FmtB g n (.str x) sp (Txt.ljust x w) := fun X A s v hA hwd r => by
  obtain ⟨t, rfl⟩ := r.str_inv
  exact W.KXf.field_str rfl rfl hne hsz (fun u => fmt_meets (.inl rfl) hw hx hne hasc hp u) fun t' k => ⟨(Step.refl hwd).toks, t', rfl⟩
theorem fmt_strR {w : Nat} (hw : w ≤ 4096) (hx : x.length ≤ 65536) (hne : (sp.length == 0) = false)
    (hasc : ((sp.cps.toList.drop 1).any (· ≥ 128) || (sp.cps.getD 0 0 ≥ 128 && !([60, 62, 61, 94] : List Nat).contains (sp.cps.getD 1 0))) = false)
    (hp : parseFormatSpec sp.cps.toList "str" 60 = .ok (fSpec 62 w)) (hsz : sp.length ≤ sizeLine) : FmtB g n (.str x) sp (Txt.rjust x w) := fun X A s v hA hwd r => by
  obtain ⟨t, rfl⟩ := r.str_inv
  exact W.KXf.field_str rfl rfl hne hsz (fun u => fmt_meets (.inr rfl) hw hx hne hasc hp u) fun t' k => ⟨(Step.refl hwd).toks, t', rfl⟩

theorem Ev.fv (hv : Ev g n X₀ X env ρ value d) (hf : FmtB g n d Str.empty y) : Ev g n X₀ X env ρ (.FormattedValue value (-1) none pos) (.str y) := .mk fun A s hA hw hfr =>
  FormattedValue_plain (hv.use hA (.refl hw) hfr fun v s1 st _ hf1 r => wpAny_mono (hf X A s1 v hA st.wd r) (fun u s2 ⟨st2, t, e⟩ => ⟨st.trans st2, e ▸ .str ..⟩) fun _ _ x => x)
theorem Ev.fvs (hv : Ev g n X₀ X env ρ value d) (hs : Ev g n X₀ X env ρ spec (.str sp)) (hf : FmtB g n d sp y) : Ev g n X₀ X env ρ (.FormattedValue value (-1) (some spec) pos) (.str y) := .mk fun A s hA hw hfr => by
  refine wpAny_FormattedValue_spec (hv.use hA (.refl hw) hfr fun v s1 _ st hf1 r => hs.use hA st hf1 fun u s2 st2 st21 hf2 r2 => ?_)
  obtain ⟨t, rfl⟩ := r2.str_inv
  exact ⟨sp, t, rfl, wpAny_mono (hf X A s2 v hA st2.wd (Rd.step hfr.T st21 r)) (fun u s2 ⟨st3, t, e⟩ => ⟨st2.trans st3, e ▸ .str ..⟩) fun _ _ x => x⟩

inductive EvJ (g : G) (n : Nat) (X₀ X : List Addr) (env : Env) (ρ : Rho) : List PySem.Expr → List PySem.Str → Prop
  | nil : EvJ g n X₀ X env ρ [] []
  | cons {e : PySem.Expr} {es : List PySem.Expr} {x : PySem.Str} {xs : List PySem.Str} : Ev g n X₀ X env ρ e (.str x) → EvJ g n X₀ X env ρ es xs → EvJ g n X₀ X env ρ (e :: es) (x :: xs)
noncomputable def catS (xs : List PySem.Str) : PySem.Str := xs.foldl (· ++ ·) Str.empty
theorem joins {A : Around} {s₀ : Shared} (hA : AOK n A) {es : List PySem.Expr} {xs : List PySem.Str} (h : EvJ g n X₀ X env ρ es xs) : ∀ {out : PySem.Str} {s : Shared}, Step g.W s₀ s → Fok g.W X₀ X env s.heap ρ → out.length + (xs.map (·.length)).sum ≤ sizeLine →
    wpAny (model g.prog g.w) A (joinParts out (evalEach es env)) (fun v s' => Step g.W s₀ s' ∧ Rd X s'.heap v (.str (xs.foldl (· ++ ·) out))) NoE s := by
  induction h with
  | nil => exact fun st hf hz => joinParts_nil ⟨st.toks, .str ..⟩ hz
  | cons h hs ih =>
    intro out s st hf hz
    refine joinParts_cons (h.use hA st hf fun v s1 st1 _ hf1 r => ?_)
    obtain ⟨t, rfl⟩ := r.str_inv
    rw [List.map_cons, List.sum_cons, ← Nat.add_assoc, ← strLen_append] at hz
    exact ⟨Nat.le_trans (Nat.le_add_right _ _) hz, ih st1 hf1 hz⟩
theorem Ev.fstr (h : EvJ g n X₀ X env ρ (v₁ :: v₂ :: rest) xs) (hz : (xs.map (·.length)).sum ≤ sizeLine) : Ev g n X₀ X env ρ (.JoinedStr (v₁ :: v₂ :: rest) pos) (.str (catS xs)) := .mk fun A s hA hw hf =>
  JoinedStr_many (joins hA h (.refl hw) hf (by show 0 + _ ≤ _; lia))
theorem Ev.fstr1 (h : Ev g n X₀ X env ρ e d) : Ev g n X₀ X env ρ (.JoinedStr [e] pos) d := .mk h.run
end
end Mine
set_option Elab.async false
set_option maxRecDepth 100000
set_option linter.unusedVariables false
set_option tactic.hygienic false
namespace Mine
open PySem PyProof.Rows

/-- what a generator expression stands on -/
structure GCtx where
  s0 : Heap
  base : Heap
  X : List Addr
  C : Addr
  S : Addr
  wr : List Addr
  I : Value
  cenv : Env
  ρc : Rho
  ds : List PyData
  outs : List PyData
  StI : Nat → Heap → Prop
  elt : Expr
  target : Expr
  iter : Expr
  scope : Scope
  pos : Pos
namespace GCtx
noncomputable def Xr (c : GCtx) : List Addr := c.X.filter (· ≠ c.S)
noncomputable def X0 (c : GCtx) : List Addr := c.wr ++ c.Xr
noncomputable def Xg (c : GCtx) : List Addr := c.C :: c.X0
noncomputable def code (c : GCtx) : Code := .compLoop (.GeneratorExp c.elt [⟨c.target, c.iter, [], 0⟩] c.scope c.pos) 0 c.I .none c.cenv
noncomputable def code0 (c : GCtx) : Code := .compStart (.GeneratorExp c.elt [⟨c.target, c.iter, [], 0⟩] c.scope c.pos) 0 c.I .none c.cenv
end GCtx

structure GOk (g : G) (n : Nat) (c : GCtx) : Prop where
  kind : c.cenv.scope.kind = .function
  co : c.cenv.scope.isCoroutine = false
  loc : c.cenv.locals = c.C
  fn : c.cenv.func = none
  glob : c.cenv.globals = mainGlobals
  blt : c.cenv.builtins = builtinsNs
  T : ∀ b ∈ g.W.T, b ∈ c.Xr
  hC : g.W.n₀ ≤ c.C ∧ c.C ∉ c.wr ∧ c.C ∉ c.X ∧ c.C ≠ c.S
  hwr : ∀ b ∈ c.wr, g.W.n₀ ≤ b ∧ b ∉ c.X ∧ b ≠ c.S
  hS : g.W.n₀ ≤ c.S
  hX : ∀ b ∈ c.X, (b ∈ g.W.T ∨ g.W.n₀ ≤ b) ∧ ∃ o, c.s0.get? b = some o
  cells : ∀ x a, c.cenv.cells.lookup x = some a → a ∈ c.Xr ∧ g.W.n₀ ≤ a ∧ ∃ v, c.s0.IsCell a v
  cinj : ∀ x y a, c.cenv.cells.lookup x = some a → c.cenv.cells.lookup y = some a → x = y
  free : ∀ x sl, c.ρc.lookup x = some sl → ∃ d a v, sl = .fz d ∧ c.cenv.kindOf x = some .free ∧ c.cenv.cells.lookup x = some a ∧ c.s0.IsCell a (some v) ∧ Rd (c.S :: c.Xg) c.s0 v d
  it : Itr g n c.target c.X c.base c.I c.wr c.ds c.StI
  bs : ∀ b o, b ∉ c.X → c.base.get? b = some o → c.s0.get? b = some o ∧ b ≠ c.C ∧ b ∉ c.wr ∧ b ≠ c.S
  len : c.outs.length = c.ds.length
  turn : ∀ (j : Nat) (d d' : PyData), c.ds[j]? = some d → c.outs[j]? = some d' → Scalar d' ∧ ∃ ρ', (∀ X₁, Asg g n X₁ c.cenv c.target d c.ρc ρ') ∧ ∀ X₁ X, Ev g n X₁ X c.cenv ρ' c.elt d'

/-- a state in which the generator stands ahead of item j -/
structure GI (g : G) (c : GCtx) (j : Nat) (s : Shared) : Prop where
  wd : Wd g.W s.heap
  kp : ∀ b o, b ∉ g.W.T → b ≠ c.C → b ∉ c.wr → b ≠ c.S → c.s0.get? b = some o → s.heap.get? b = some o
  ns : ∃ m, s.heap.Ns c.C m
  st : c.StI j s.heap

section
variable {g : G} {n : Nat} {c : GCtx} {j : Nat} {s : Shared}

theorem GCtx.in_Xr {b : Addr} : b ∈ c.Xr ↔ b ∈ c.X ∧ b ≠ c.S := by simp [GCtx.Xr]
theorem GI.fok (ok : GOk g n c) (x : GI g c j s) : Fok g.W c.X0 c.Xg c.cenv s.heap c.ρc := by
  obtain ⟨m, hn⟩ := x.ns
  have keep : ∀ b o, b ∈ c.Xr → b ∉ g.W.T → c.s0.get? b = some o → s.heap.get? b = some o := fun b o hb ht e => by
    obtain ⟨h1, h2⟩ := GCtx.in_Xr.mp hb
    exact x.kp b o ht (fun q => ok.hC.2.2.1 (q ▸ h1)) (fun q => (ok.hwr b q).2.1 h1) h2 e
  refine ⟨ok.kind, fun a ha => .tail _ ha, ok.glob, ok.blt, fun a ha => List.mem_append.mpr (.inr (ok.T a ha)), fun a ha => ?_, fun a ha => ?_, ⟨ok.loc ▸ .head _, ok.loc ▸ ok.hC.1, ok.loc ▸ fun q => ?_⟩, fun y a hy => ?_, fun y a q => ?_, ok.cinj, m, ok.loc ▸ hn, fun y sl hy => ?_, fun y z es fs a b _ hy => ?_⟩
  · rcases List.mem_cons.mp ha with rfl | ha
    · obtain ⟨o, _, _, e, _⟩ := hn
      exact ⟨o, e⟩
    · rcases List.mem_append.mp ha with ha | ha
      · exact ok.it.live j _ x.st a ha
      · by_cases ht : a ∈ g.W.T
        · exact x.wd.live ht
        · obtain ⟨_, o, e⟩ := ok.hX a (GCtx.in_Xr.mp ha).1
          exact ⟨o, keep a o ha ht e⟩
  · rcases List.mem_cons.mp ha with rfl | ha
    · exact .inr ok.hC.1
    · rcases List.mem_append.mp ha with ha | ha
      · exact .inr (ok.hwr a ha).1
      · exact (ok.hX a (GCtx.in_Xr.mp ha).1).1
  · rcases List.mem_append.mp q with q | q
    · exact ok.hC.2.1 q
    · exact ok.hC.2.2.1 (GCtx.in_Xr.mp q).1
  · obtain ⟨a1, a2, v, o, e, dd⟩ := ok.cells y a hy
    exact ⟨.tail _ (List.mem_append.mpr (.inr a1)), a2, v, o, keep a o a1 (Fok.hiT g.ok a2) e, dd⟩
  · rw [ok.fn] at q; cases q
  · obtain ⟨d, a, v, rfl, h1, h2, ⟨o, e, dd⟩, rd⟩ := ok.free y sl hy
    obtain ⟨a1, a2, _⟩ := ok.cells y a h2
    refine ⟨v, .inr ⟨.inr h1, a, h2, o, keep a o a1 (Fok.hiT g.ok a2) e, dd⟩, ?_⟩
    refine Rd.mono (fun b o hb e => ?_) rd
    have hb' : b ∉ c.Xg := fun q => hb (.tail _ q)
    refine ⟨hb', x.kp b o (fun q => hb' (.tail _ (List.mem_append.mpr (.inr (ok.T b q))))) (fun q => hb' (q ▸ .head _)) (fun q => hb' (.tail _ (List.mem_append.mpr (.inl q)))) (fun q => hb (q ▸ .head _)) e⟩
  · obtain ⟨d, a, v, q, _⟩ := ok.free y _ hy
    cases q

noncomputable def gR (g : G) (c : GCtx) : GenEnd := fun n s₀ r s₁ => r = .ok .next ∧ (n = 0 ∧ MvD g.W (c.C :: c.wr) s₀ s₁)
noncomputable def gY (g : G) (c : GCtx) : Protocol := fun m s₀ v s kap => (∃ d, c.outs[c.ds.length - 1 - m]? = some d ∧ Rd [] s.heap v d) ∧ MvD g.W (c.C :: c.wr) s₀ s ∧ GI g c (c.ds.length - m) s ∧ ∀ s'', GI g c (c.ds.length - m) s'' → kap (.send .none) s''

theorem over_ok {A : Around} (hA : AOK (n + 1) A) : AOK n (A.over c.code []) ∧ AOK n (A.over c.code0 []) := by
  refine ⟨⟨hA.hd, ?_, ?_⟩, ⟨hA.hd, ?_, ?_⟩⟩
  · have := hA.dp; show A.depth + 0 + 1 + n ≤ 900; lia
  · have := hA.un; show A.units + 0 + 3 + 20 * n ≤ 9000; lia
  · have := hA.dp; show A.depth + 0 + 1 + n ≤ 900; lia
  · have := hA.un; show A.units + 0 + 3 + 20 * n ≤ 9000; lia

theorem MvD.trans' {W : WC} {l : List Addr} {a b d : Shared} (x : MvD W l a b) (y : MvD W l b d) : MvD W l a d := ⟨fun p o h1 h2 e => y.kp p o h1 h2 (x.kp p o h1 h2 e), y.wd, x.gk.trans y.gk, y.os.trans x.os⟩

theorem gen_loop (ok : GOk g n c) {A : Around} (hA : AOK (n + 1) A) : ∀ (k j : Nat) (s₀ s : Shared), c.ds.length - j = k → j ≤ c.ds.length → GI g c j s → MvD g.W (c.C :: c.wr) s₀ s →
    Seg (model g.prog g.w) A (gR g c) (gY g c) (c.ds.length - j) s₀ c.code ((model g.prog g.w).den c.code) [] s := by
  have hA' : AOK n (A.over c.code []) := (over_ok hA).1
  have wrX : ∀ b ∈ c.wr, b ∈ c.X0 := fun b hb => List.mem_append.mpr (.inl hb)
  have hbase : ∀ {j s}, GI g c j s → ∀ b o, b ∉ c.X → c.base.get? b = some o → s.heap.get? b = some o := fun x b o hb e => by
    obtain ⟨h1, h2, h3, h4⟩ := ok.bs b o hb e
    exact x.kp b o (fun q => hb (GCtx.in_Xr.mp (ok.T b q)).1) h2 h3 h4 h1
  intro k
  induction k with
  | zero =>
    intro j s₀ s hk hj x mv
    have hin : j = c.ds.length := ar_z hk hj
    subst hin
    show Seg _ A _ _ _ s₀ _ ((compTurn (.GeneratorExp c.elt [⟨c.target, c.iter, [], 0⟩] c.scope c.pos) 0 c.I .none c.cenv).onRaise (leaving c.cenv)) [] s
    rw [compTurn_gen, Sem.onRaise_eq_wrap]
    refine seg_bind_wrap (wpAny_standAt ?_)
    refine seg_bind_wrap (wpAny_mono (ok.it.done _ s hA' x.wd (hbase x) x.st) (fun r s1 ⟨hr, mv1⟩ => ?_) fun _ _ f => f.elim)
    subst hr
    exact seg_end (.ok .next) ⟨rfl, Nat.sub_self _, mv.trans' ⟨fun b o h1 h2 e => mv1.kp b o h1 (fun q => h2 (.tail _ q)) e, mv1.wd, mv1.gk, mv1.os⟩⟩
  | succ k ih =>
    intro j s₀ s hk hj x mv
    have hlt : j < c.ds.length := ar_s hk
    have hd := List.getElem?_eq_getElem hlt
    have hd' := List.getElem?_eq_getElem (l := c.outs) (i := j) (by rw [ok.len]; exact hlt)
    obtain ⟨hsc, ρ', hasg, hev⟩ := ok.turn j _ _ hd hd'
    have hf := x.fok ok
    show Seg _ A _ _ _ s₀ _ ((compTurn (.GeneratorExp c.elt [⟨c.target, c.iter, [], 0⟩] c.scope c.pos) 0 c.I .none c.cenv).onRaise (leaving c.cenv)) [] s
    rw [compTurn_gen, Sem.onRaise_eq_wrap]
    refine seg_bind_wrap (wpAny_standAt ?_)
    refine seg_bind_wrap (wpAny_mono (ok.it.next j _ s _ hd hA' x.wd (hbase x) x.st) (fun r s1 ⟨v, hr, h1⟩ => ?_) fun _ _ f => f.elim)
    subst hr
    refine seg_bind_wrap (wpAny_mono h1 (fun _ s2 ⟨mv2, st2, hrd⟩ => ?_) fun _ _ f => f.elim)
    have hcw : ∀ y a, c.cenv.cells.lookup y = some a → a ∉ c.wr := fun y a hy q => (ok.hwr a q).2.1 (GCtx.in_Xr.mp (ok.cells y a hy).1).1
    have hf2 := hf.mv mv2 wrX hcw
    have r2 := hrd c.Xg (fun b hb => hf.live b hb) fun b o hb e q => by
      obtain ⟨_, h2, h3, h4⟩ := ok.bs b o hb e
      rcases List.mem_cons.mp q with q | q
      · exact h2 q
      · rcases List.mem_append.mp q with q | q
        · exact h3 q
        · exact hb (GCtx.in_Xr.mp q).1
    refine seg_bind_wrap (wpAny_mono (hasg c.X0 c.Xg _ s2 v hA' mv2.wd hf2 r2) (fun _ s3 ⟨ss3, hf3⟩ => ?_) fun _ _ f => f.elim)
    refine seg_bind_wrap (wpAny_tests_nil ?_)
    rw [if_pos rfl]
    have hy : ∀ v, yieldOut c.cenv v = yieldValue v := fun v => by simp only [yieldOut, ok.co, Bool.false_eq_true, if_false]
    simp only [hy]
    rw [Sem.bind_eq_wrap', Sem.bind_eq_wrap', Sem.wrap_wrap, Sem.wrap_wrap]
    refine seg_wrap (wpAny_mono ((hev c.X0 c.Xg).run _ s3 hA' ss3.wd hf3) (fun u s4 ⟨st4, r4⟩ => ?_) fun _ _ f => f.elim)
    have hf4 := hf3.step g.ok st4
    have up : ∀ b o, b ∉ g.W.T → b ≠ c.C → b ∉ c.wr → s.heap.get? b = some o → s4.heap.get? b = some o := fun b o h1 h2 h3 e =>
      st4.kp b o h1 (ss3.kp b o h1 (fun q => (List.mem_cons.mp q).elim (fun q => (h2 q).elim) id) (mv2.kp b o h1 h3 e))
    have mv4 : MvD g.W (c.C :: c.wr) s₀ s4 := mv.trans' ⟨fun b o h1 h2 e => up b o h1 (fun q => h2 (q ▸ .head _)) (fun q => h2 (.tail _ q)) e, st4.wd, mv2.gk.trans (ss3.gk.trans st4.gk), (st4.os.trans ss3.os).trans mv2.os⟩
    have x4 : GI g c (j + 1) s4 := ⟨st4.wd, fun b o h1 h2 h3 h4 e => up b o h1 h2 h3 (x.kp b o h1 h2 h3 h4 e), (let ⟨m, hn, _⟩ := hf4.ns; ⟨m, ok.loc ▸ hn⟩),
      ok.it.fr _ _ _ st2 fun b hb o e => st4.kp b o (Fok.hiT g.ok (ok.hwr b hb).1) (ss3.kp b o (Fok.hiT g.ok (ok.hwr b hb).1) (fun _ => wrX b hb) e)⟩
    have e1 : c.ds.length - j = (c.ds.length - (j + 1)) + 1 := ar_a hlt
    have e2 : c.ds.length - 1 - (c.ds.length - (j + 1)) = j := ar_b hlt
    have e3 : c.ds.length - (c.ds.length - (j + 1)) = j + 1 := ar_c hlt
    rw [e1]
    refine seg_at (seg_yield rfl rfl rfl ⟨⟨_, by rw [e2]; exact hd', r4.scalar hsc⟩, mv4, by rw [e3]; exact x4, fun s'' x'' => ?_⟩)
    rw [e3] at x''
    exact seg_again rfl (ih (j + 1) s'' s'' (ar_n hk) hlt x'' ⟨fun _ _ _ _ e => e, x''.wd, .refl _, rfl⟩)

theorem gen_start (ok : GOk g n c) {A : Around} (hA : AOK (n + 1) A) {s : Shared} (x : GI g c 0 s) : Seg (model g.prog g.w) A (gR g c) (gY g c) c.ds.length s c.code0 ((model g.prog g.w).den c.code0) [] s := by
  have loop := gen_loop ok hA c.ds.length 0 s s (Nat.sub_zero _) (Nat.zero_le _) x ⟨fun _ _ _ _ e => e, x.wd, .refl _, rfl⟩
  rw [Nat.sub_zero] at loop
  show Seg _ A _ _ _ s _ ((compStart (.GeneratorExp c.elt [⟨c.target, c.iter, [], 0⟩] c.scope c.pos) 0 c.I .none c.cenv).onRaise (leaving c.cenv)) [] s
  unfold compStart
  rw [Sem.onRaise_eq_wrap]
  show Seg _ A _ _ _ s _ ((ask >>= _).wrap _ _ _ _) [] s
  refine seg_bind_wrap (wpAny_askSetting ?_)
  have self : ∀ {A' : Around} {Q : Value → Shared → Prop} {E : Value → Shared → Prop}, Q c.I s → wpAny (model g.prog g.w) A' (pyIter c.I) Q E s := fun h => wpAny_mono (ok.it.self 0 _ s _ x.st h) (fun _ _ x => x) fun _ _ f => f.elim
  split
  · exact seg_again rfl loop
  · first
      | exact seg_bind_wrap (wpAny_rule (seg_bind_wrap (wpAny_standAt (seg_bind_wrap (self (seg_again rfl loop))))))
      | (refine seg_bind_wrap (wpAny_rule ?_); show Seg _ A _ _ _ s _ ((standAt c.iter.pos >>= _).wrap _ _ _ _) [] s; exact seg_bind_wrap (wpAny_standAt (seg_bind_wrap (self (seg_again rfl loop)))))
end
end Mine
set_option Elab.async false
set_option maxRecDepth 100000
set_option linter.unusedVariables false
set_option tactic.hygienic false
namespace Mine
open PySem PyProof.Rows

structure GX (gi : Nat) (a b : Array GenState) : Prop where
  keep : ∀ (i : Nat) x, i ≠ gi → a[i]? = some x → b[i]? = some x
  bare : AllBare a → AllBare b
theorem GX.trans {gi : Nat} {a b c : Array GenState} (x : GX gi a b) (y : GX gi b c) : GX gi a c := ⟨fun i z h e => y.keep i z h (x.keep i z h e), y.bare ∘ x.bare⟩
theorem GX.set {gi : Nat} {s : Shared} {x : GenState} (h : x.bare = true) : GX gi s.gens (s.setGen gi x).gens := by
  refine ⟨fun i z hi e => ?_, fun ha y hy => ?_⟩
  · rw [(GenOnly.setGen s gi x).2 i hi]; exact e
  · obtain ⟨i, hi, rfl⟩ := Array.mem_iff_getElem.mp hy
    by_cases e : i = gi
    · subst e
      have hs : (s.setGen i x).gens[i]? = some x := by
        have h1 := (GenOnly.setGen s i x).1
        have : i < s.gens.size := by rw [← h1]; exact hi
        exact setGen_self (gs := s.gens[i]) (Array.getElem?_eq_getElem this)
      rw [Array.getElem?_eq_getElem hi] at hs
      rw [Option.some.inj hs]; exact h
    · have h1 := (GenOnly.setGen s gi x).2 i e
      rw [Array.getElem?_eq_getElem hi] at h1
      obtain ⟨hi', e'⟩ := Array.getElem?_eq_some_iff.mp h1.symm
      exact e' ▸ ha _ (Array.getElem_mem hi')
theorem GK.gx {gi : Nat} {a b : Array GenState} (x : GK a b) : GX gi a b := ⟨fun i z _ e => x.keep i z e, x.bare⟩

/-- the generator's object -/
structure GObj (g : G) (c : GCtx) (a : Addr) (gi : Nat) : Prop where
  gen : c.s0.IsGen a gi
  ne : a ∉ g.W.T ∧ a ≠ c.C ∧ a ∉ c.wr ∧ a ≠ c.S
structure GEnd (g : G) (c : GCtx) (gi : Nat) (sB s : Shared) : Prop where
  wd : Wd g.W s.heap
  kp : ∀ b o, b ∉ g.W.T → b ≠ c.C → b ∉ c.wr → b ≠ c.S → c.s0.get? b = some o → s.heap.get? b = some o
  gx : GX gi sB.gens s.gens
  os : (s.os, s.drawn) = (sB.os, sB.drawn)
structure GSt (g : G) (c : GCtx) (gi : Nat) (A : Around) (sB : Shared) (j : Nat) (s : Shared) : Prop where
  i : GI g c j s
  gs : ∃ x, s.gens[gi]? = some x ∧ ∀ s'', GI g c j s'' → x.Goes (model g.prog g.w) A.in1 (gR g c) (gY g c) (c.ds.length - j) (.send .none) s''
  gx : GX gi sB.gens s.gens
  os : (s.os, s.drawn) = (sB.os, sB.drawn)

section
variable {g : G} {n : Nat} {c : GCtx} {j gi : Nat} {s sB : Shared} {a : Addr} {A : Around}

theorem GI.gen (o : GObj g c a gi) (x : GI g c j s) : s.heap.IsGen a gi := let ⟨ob, nm, qn, ho, r⟩ := o.gen; ⟨ob, nm, qn, x.kp a ob o.ne.1 o.ne.2.1 o.ne.2.2.1 o.ne.2.2.2 ho, r⟩
theorem GI.frame (ok : GOk g n c) (x : GI g c j s) {h' : Heap} {tk : Nat} (hk : ∀ b o, b ≠ c.S → s.heap.get? b = some o → h'.get? b = some o) : GI g c j { s with heap := h', toks := tk } :=
  ⟨x.wd.keep g.ok fun b o hb e => hk b o (Nat.ne_of_lt (Nat.lt_of_lt_of_le hb ok.hS)) e, fun b o h1 h2 h3 h4 e => hk b o h4 (x.kp b o h1 h2 h3 h4 e), (let ⟨m, hn⟩ := x.ns; ⟨m, hn.at' fun o e => hk _ o ok.hC.2.2.2 e⟩),
    ok.it.fr _ _ _ x.st fun b hb o e => hk b o (ok.hwr b hb).2.2 e⟩
theorem GSt.frame (ok : GOk g n c) (x : GSt g c gi A sB j s) {h' : Heap} {tk : Nat} (hk : ∀ b o, b ≠ c.S → s.heap.get? b = some o → h'.get? b = some o) : GSt g c gi A sB j { s with heap := h', toks := tk } :=
  ⟨x.i.frame ok hk, x.gs, x.gx, x.os⟩
theorem GSt.fin (x : GSt g c gi A sB j s) : GEnd g c gi sB s := ⟨x.i.wd, x.i.kp, x.gx, x.os⟩
theorem GEnd.frame (ok : GOk g n c) (x : GEnd g c gi sB s) {h' : Heap} {tk : Nat} (hk : ∀ b o, b ≠ c.S → s.heap.get? b = some o → h'.get? b = some o) : GEnd g c gi sB { s with heap := h', toks := tk } :=
  ⟨x.wd.keep g.ok fun b o hb e => hk b o (Nat.ne_of_lt (Nat.lt_of_lt_of_le hb ok.hS)) e, fun b o h1 h2 h3 h4 e => hk b o h4 (x.kp b o h1 h2 h3 h4 e), x.gx, x.os⟩

theorem gen_item (ok : GOk g n c) (ob : GObj g c a gi) (hA : AOK (n + 2) A) (hj : j < c.ds.length) (x : GSt g c gi A sB j s) {Q : Option Value → Shared → Prop} {E : Value → Shared → Prop}
    (h : ∀ v d s', c.outs[j]? = some d → Rd [] s'.heap v d → GSt g c gi A sB (j + 1) s' → (∀ o, s.heap.get? c.S = some o → s'.heap.get? c.S = some o) → Q (some v) s') : wpAny (model g.prog g.w) A (pyNext (.ref a)) Q E s := by
  obtain ⟨gs, hgs, hgo⟩ := x.gs
  obtain ⟨m, hm⟩ : ∃ m, c.ds.length - j = m + 1 := ⟨_, ar_a hj⟩
  rw [hm] at hgo
  refine wpAny_pyNext_genexpQ (P := fun n s₀ s₁ => n = 0 ∧ MvD g.W (c.C :: c.wr) s₀ s₁) hA.hd x.i.wd.nl hA.room (x.i.gen ob) hgs (hgo _ ⟨x.i.wd, x.i.kp, x.i.ns, x.i.st⟩) (fun v s₁ gs' hb hv => ?_) (fun s₁ hp h' hk => ?_)
  · obtain ⟨⟨d, hd, rd⟩, mv, x1, hkap⟩ := hv
    have hm' : c.ds.length - (j + 1) = m := ar_n hm
    have e2 : c.ds.length - 1 - (m + 1 - 1) = j := by rw [Nat.add_sub_cancel, ← hm']; exact ar_b hj
    have e3 : c.ds.length - (m + 1 - 1) = j + 1 := by rw [Nat.add_sub_cancel, ← hm']; exact ar_c hj
    rw [e2] at hd
    rw [e3] at x1 hkap
    have hrun : s₁.gens[gi]? = some .running := mv.gk.keep gi _ (setGen_self hgs)
    refine h v d _ hd rd ⟨⟨x1.wd, x1.kp, x1.ns, x1.st⟩, ⟨gs', setGen_self hrun, fun s'' x'' => ?_⟩, ((x.gx.trans (GX.set rfl)).trans mv.gk.gx).trans (GX.set hb), mv.os.trans x.os⟩ fun o e => mv.kp c.S o (Fok.hiT g.ok ok.hS) (fun q => ?_) e
    · have e4 : c.ds.length - (j + 1) = m := hm'
      rw [e4]
      exact hkap s'' x''
    · rcases List.mem_cons.mp q with q | q
      · exact ok.hC.2.2.2 q.symm
      · exact (ok.hwr _ q).2.2 rfl
  · exact absurd hp.1 (Nat.succ_ne_zero m)
theorem gen_done (ok : GOk g n c) (ob : GObj g c a gi) (hA : AOK (n + 2) A) (x : GSt g c gi A sB c.ds.length s) {Q : Option Value → Shared → Prop} {E : Value → Shared → Prop}
    (h : ∀ s', GEnd g c gi sB s' → (∀ o, s.heap.get? c.S = some o → s'.heap.get? c.S = some o) → Q none s') : wpAny (model g.prog g.w) A (pyNext (.ref a)) Q E s := by
  obtain ⟨gs, hgs, hgo⟩ := x.gs
  rw [Nat.sub_self] at hgo
  refine wpAny_pyNext_genexpQ (P := fun n s₀ s₁ => n = 0 ∧ MvD g.W (c.C :: c.wr) s₀ s₁) hA.hd x.i.wd.nl hA.room (x.i.gen ob) hgs (hgo _ ⟨x.i.wd, x.i.kp, x.i.ns, x.i.st⟩) (fun v s₁ gs' hb hv => ?_) (fun s₁ hp h' hk => ?_)
  · obtain ⟨_, _, x1, hkap⟩ := hv
    exact False.elim (hkap s₁ x1)
  · obtain ⟨_, mv⟩ := hp
    have offS : c.S ∉ c.C :: c.wr := fun q => by
      rcases List.mem_cons.mp q with q | q
      · exact ok.hC.2.2.2 q.symm
      · exact (ok.hwr _ q).2.2 rfl
    refine h _ ⟨mv.wd.keep g.ok fun b o _ e => hk b o e, fun b o h1 h2 h3 h4 e => hk b o (mv.kp b o h1 (fun q => (List.mem_cons.mp q).elim h2 h3) (x.i.kp b o h1 h2 h3 h4 e)), ((x.gx.trans (GX.set rfl)).trans mv.gk.gx).trans (GX.set rfl), mv.os.trans x.os⟩ fun o e => hk _ o (mv.kp c.S o (Fok.hiT g.ok ok.hS) offS e)
theorem gen_self (ob : GObj g c a gi) (x : GSt g c gi A sB j s) {A' : Around} {Q : Value → Shared → Prop} {E : Value → Shared → Prop} (h : Q (.ref a) s) : wpAny (model g.prog g.w) A' (pyIter (.ref a)) Q E s := wpAny_pyIter_gen (x.i.gen ob) h

/-- the loop behind extend -/
theorem ext_loop (ok : GOk g n c) (ob : GObj g c a gi) (hA : AOK (n + 2) A.in1) {res : Value} {R : Result → Shared → Prop} : ∀ (k j : Nat) (s : Shared) (acc : List Value) (m : Nat), c.ds.length - j = k → j ≤ c.ds.length → GSt g c gi A.in1 sB j s →
    s.heap.get? c.S = some (lstObj acc m) → acc.length + k ≤ sizeLine →
    (∀ s' vs m', GEnd g c gi sB s' → s'.heap.get? c.S = some (lstObj (acc ++ vs) m') → RdAll [] s'.heap vs (c.outs.drop j) → R (.ok (.ret res)) s') →
    codeAny (model g.prog g.w) A (.builtin "list.extend.loop" ⟨[.ref c.S, .ref a, res], []⟩) R s := by
  intro k
  induction k with
  | zero =>
    intro j s acc m hk hj x hS hz hR
    have hin : j = c.ds.length := ar_z hk hj
    subst hin
    refine codeAny_builtin F.entry_extend_loop ?_
    rw [Around.under_plainId F.plain_extend_loop _]
    show wpAny _ A.in1 (pyNext (.ref a) >>= _) _ _ s
    refine wpAny_bind (gen_done ok ob hA x fun s' ge hS' => wpAny_pure (hR s' [] m ge (by simpa using hS' _ hS) ?_))
    rw [List.drop_of_length_le (Nat.le_of_eq ok.len)]; exact .nil
  | succ k ih =>
    intro j s acc m hk hj x hS hz hR
    have hlt : j < c.ds.length := ar_s hk
    refine codeAny_builtin F.entry_extend_loop ?_
    rw [Around.under_plainId F.plain_extend_loop _]
    show wpAny _ A.in1 (pyNext (.ref a) >>= _) _ _ s
    refine wpAny_bind (gen_item ok ob hA hlt x fun v d s' hd rd x' hS' => ?_)
    have hS1 := hS' _ hS
    show wpAny _ A.in1 (updateSeq c.S (·.push v) >>= _) _ _ _
    refine wpAny_bind ?_
    have e := IsL.update (l := c.S) (items := acc.toArray) (n := m) hS1 (fun xs => xs.push v)
    refine wpAny_updateSeq hS1 rfl (wpAny_pure ⟨plainId_quiet F.plain_extend_loop _, ih (j + 1) _ (acc ++ [v]) _ (ar_n hk) hlt (x'.frame ok fun b o hb e => (Heap.get?_update_other _ _ (Ne.symm hb)).trans e) (e.trans (by simp [lstObj]; rfl)) (by simp; lia) fun s'' vs m' ge hS'' ra => ?_⟩)
      (by simp; lia) (by simp; lia)
    refine hR s'' (v :: vs) m' ge (by simpa using hS'') ?_
    have hdr : c.outs.drop j = d :: c.outs.drop (j + 1) := by
      rw [List.drop_eq_getElem_cons (by rw [ok.len]; exact hlt)]
      congr 1
      rw [List.getElem?_eq_getElem (by rw [ok.len]; exact hlt)] at hd
      exact Option.some.inj hd
    rw [hdr]
    have hsc : Scalar d := by
      have hd0 := List.getElem?_eq_getElem hlt
      exact (ok.turn j _ _ hd0 hd).1
    exact .cons (rd.scalar hsc) ra

/-- extend's own part -/
theorem ext_with (ok : GOk g n c) (ob : GObj g c a gi) (hA : AOK (n + 2) A.in1) {res : Value} {R : Result → Shared → Prop} {acc : List Value} {m : Nat} (x : GSt g c gi A.in1 sB 0 s) (hS : s.heap.get? c.S = some (lstObj acc m)) (hz : acc.length + c.ds.length ≤ 16777215)
    (hR : ∀ s' vs m', GEnd g c gi sB s' → s'.heap.get? c.S = some (lstObj (acc ++ vs) m') → RdAll [] s'.heap vs c.outs → R (.ok (.ret res)) s') :
    wpAny (model g.prog g.w) A.in1 (Builtin.List.listExtendWith (.ref c.S) (.ref a) res)
      (fun fin s' => match fin with | .done f => R (.ok f) s' | .again c' => c'.quiet = true ∧ codeAny (model g.prog g.w) A c' R s') (fun e s' => R (.error e) s') s := by
  have hSI : c.S ≠ a := fun e => ob.ne.2.2.2 e.symm
  have hsl : sizeLine = 16777216 := rfl
  have hT : s.TypeIs (.ref a) "generator" := (x.i.gen ob).typeIs
  unfold Builtin.List.listExtendWith
  refine wpAny_bind (wpAny_typeOf hT ?_)
  have h1 : Builtin.List.listSameRef (.ref c.S) (.ref a) = false := by simp [Builtin.List.listSameRef, hSI]
  have h2 : (Value.type "generator" == Value.type "list") = false := by decide
  have h3 : (Value.type "generator" == Value.type "tuple") = false := by decide
  simp only [h1, h2, h3, Bool.or_false, Bool.false_eq_true, if_false]
  refine wpAny_bind (gen_self ob x ?_)
  refine wpAny_bind (wpAny_holding ?_)
  unfold Builtin.List.listLengthHint
  refine wpAny_bind (wpAny_specialOf hT F.gen_no_len ?_)
  show wpAny _ A.in1 (specialOf (Value.ref a) (Str.ofString "__length_hint__") >>= _) _ _ _
  refine wpAny_bind (wpAny_specialOf hT F.gen_no_hint ?_)
  refine wpAny_pure ?_
  show wpAny _ A.in1 (rule "list.extend.makes-room" >>= fun _ => Builtin.List.listTouch (.ref c.S) >>= fun _ =>
    again (.builtin "list.extend.loop" ⟨[.ref c.S, .ref a, res], []⟩)) _ _ _
  refine wpAny_bind (wpAny_rule ?_)
  refine wpAny_bind ?_
  show wpAny _ A.in1 (updateSeq c.S (·.push .none) >>= fun _ => updateSeq c.S (·.pop)) _ _ _
  have e1 := IsL.update (l := c.S) (items := acc.toArray) (n := m) hS (fun xs => xs.push Value.none)
  refine wpAny_bind (wpAny_updateSeq hS rfl ?_ (by simp; lia) (by simp; lia))
  have e2 := IsL.update (l := c.S) e1 (fun xs => xs.pop)
  refine wpAny_updateSeq e1 rfl ?_ (by simp; lia) (by simp; lia)
  have oth : ∀ b o, b ≠ c.S → s.heap.get? b = some o → ((s.heap.update c.S (Obj.mapSeq (·.push Value.none))).update c.S (Obj.mapSeq (·.pop))).get? b = some o :=
    fun b o hb e => (Heap.get?_update_other _ _ (Ne.symm hb)).trans ((Heap.get?_update_other _ _ (Ne.symm hb)).trans e)
  refine wpAny_pure ⟨plainId_quiet F.plain_extend_loop _, ext_loop ok ob hA c.ds.length 0 _ acc _ (Nat.sub_zero _) (Nat.zero_le _) (x.frame ok oth) (e2.trans (by simp [lstObj]; rfl)) (by lia) fun s' vs m' ge hS' ra => hR s' vs m' ge hS' (by simpa using ra)⟩
end
end Mine
set_option Elab.async false
set_option maxRecDepth 100000
set_option linter.unusedVariables false
set_option tactic.hygienic false
namespace Mine
open PySem PyProof.Rows

/-- the builtins of the running module are the plain ones -/
noncomputable def BltOk (g : G) : Prop := ∀ (A : Around) (s : Shared) (Q : Addr → Shared → Prop), Wd g.W s.heap → Q builtinsNs s → wpAny (model g.prog g.w) A (builtinsFor mainGlobals builtinsNs) Q NoE s

section
variable {g : G} {n : Nat} {X₀ X : List Addr} {env : Env} {ρ ρc : Rho} {elt target iter : Expr} {scope : Scope} {cl : List (Str × Addr)} {ds outs : List PyData} {pos p apos : Pos} {s : Shared} {A : Around} {x : Str}

theorem gcode {cc P : Addr} {q : Str} (hc : env.code = .ref cc) (hC : (cc, P) ∈ g.W.C) (hw : Wd g.W s.heap) {Q : Value → Shared → Prop}
    (h : ∀ code h' tk, Step g.W s { s with heap := h', toks := tk } → Q code { s with heap := h', toks := tk }) : wpAny (model g.prog g.w) A (genexprCode env pos q scope) Q NoE s := by
  obtain ⟨ps, hcode, htab⟩ := hw.t _ hC
  cases hnf : codeAmong pos ps.toList with
  | some cv => exact wpAny_genexprCode_hit hc hcode hnf (h cv s.heap s.toks (.refl hw))
  | none =>
    refine wpAny_genexprCodeX hc hcode htab hnf fun c' h' tk he _ _ hcode' _ htab' _ => h _ _ _ ?_
    have hPT : P ∈ g.W.T := List.mem_map.mpr ⟨_, hC, rfl⟩
    have kp : ∀ b o, b ∉ g.W.T → s.heap.get? b = some o → h'.get? b = some o := fun b o hb e => he b o (fun q => hb (q ▸ hPT)) e
    refine ⟨kp, ⟨hw.g.at' fun o e => kp _ o g.ok.loT.1 e, hw.b.at' fun o e => kp _ o g.ok.loT.2.1 e, (let ⟨m, a, b⟩ := hw.nl; ⟨m, a.at' fun o e => kp _ o g.ok.loT.2.2 e, b⟩), (let ⟨m, a, b⟩ := hw.nd; ⟨m, a.at' fun o e => kp _ o g.ok.loT.2.2 e, b⟩), fun r hr => kp _ _ (g.ok.k r hr).2 (hw.k r hr), fun r hr => ?_⟩, .refl _, rfl⟩
    by_cases hrP : r.2 = P
    · have : r = (cc, P) := by
        have nd := g.ok.nd
        have key : ∀ (l : List (Addr × Addr)), (l.map (·.2)).Nodup → r ∈ l → (cc, P) ∈ l → r = (cc, P) := by
          intro l
          induction l with
          | nil => intro _ h; cases h
          | cons y l ih =>
            intro nd h1 h2
            obtain ⟨n1, n2⟩ := List.nodup_cons.mp nd
            rcases List.mem_cons.mp h1 with e1 | h1 <;> rcases List.mem_cons.mp h2 with e2 | h2
            · rw [e1, e2]
            · exact (n1 (List.mem_map.mpr ⟨_, h2, by rw [← e1]; exact hrP.symm⟩)).elim
            · exact (n1 (List.mem_map.mpr ⟨_, h1, by rw [← e2]; exact hrP⟩)).elim
            · exact ih n2 h1 h2
        exact key _ nd hr hC
      subst this
      exact ⟨_, hcode', htab'⟩
    · obtain ⟨ps', a, b⟩ := hw.t r hr
      have k1 : ∀ o, s.heap.get? r.1 = some o → h'.get? r.1 = some o := fun o e => kp _ o (g.ok.c r hr).2.2 e
      have k2 : ∀ o, s.heap.get? r.2 = some o → h'.get? r.2 = some o := fun o e => he _ o hrP e
      refine ⟨ps', ?_, ?_⟩
      · obtain ⟨o, vs, file, tf, flags, tg, inF, text, tt, op, e1, r1, r2, r3, r4, r5, r6, e2, rr⟩ := a
        exact ⟨o, vs, file, tf, flags, tg, inF, text, tt, op, k1 _ e1, r1, r2, r3, r4, r5, r6, k2 _ e2, rr⟩
      · obtain ⟨⟨o, vs, e1, rr⟩, e2⟩ := b
        exact ⟨⟨o, vs, k1 _ e1, rr⟩, k2 _ e2⟩

/-- what a generator expression must show -/
structure GenOk (g : G) (n : Nat) (env : Env) (ρ ρc : Rho) (elt target : Expr) (scope : Scope) (cl : List (Str × Addr)) (ds outs : List PyData) : Prop where
  bf : BltOk g
  code : ∃ cc P, env.code = .ref cc ∧ (cc, P) ∈ g.W.C
  co : scope.isCoroutine = false
  clos : closureFor scope env = pure cl
  sub : ∀ x c, cl.lookup x = some c → env.cells.lookup x = some c
  kind : scope.kind = .function
  dot : scope.names.lookup (".0" : Str) = some .local
  cell : ∀ y ∈ scope.names, y.2 ≠ .cell
  free : ∀ x sl, ρc.lookup x = some sl → ∃ d c, sl = .fz d ∧ ρ.lookup x = some (.fz d) ∧ env.kindOf x = some .cell ∧ env.cells.lookup x = some c ∧ cl.lookup x = some c ∧ scope.names.lookup x = some .free
  len : outs.length = ds.length
  turn : ∀ (j : Nat) (d d' : PyData), ds[j]? = some d → outs[j]? = some d' → Scalar d' ∧ ∃ ρ', (∀ C code X₁, Asg g n X₁ (genEnv scope cl C code builtinsNs env) target d ρc ρ') ∧ ∀ C code X₁ X, Ev g n X₁ X (genEnv scope cl C code builtinsNs env) ρ' elt d'

/-- the generator, made -/
noncomputable def Made1 (g : G) (n : Nat) (X : List Addr) (ds outs : List PyData) (s : Shared) (v : Value) (s' : Shared) : Prop :=
  Step g.W s s' ∧ ∃ a, v = .ref a ∧ ∀ S, (S ∈ X ∧ g.W.n₀ ≤ S ∧ ∃ vs k, s.heap.get? S = some (lstObj vs k)) ∨ s'.heap.objs.size ≤ S → ∃ c gi, c.S = S ∧ c.ds = ds ∧ c.outs = outs ∧ c.s0 = s'.heap ∧ s.gens.size ≤ gi ∧ s.heap.get? c.C = none ∧ (∀ b ∈ c.wr, s.heap.get? b = none) ∧
    GOk g n c ∧ GObj g c a gi ∧ ∀ A', AOK (n + 2) A' → GSt g c gi A' s 0 s'

theorem gen_make (hit : EvI g n target X₀ X env ρ iter ds) (ok : GenOk g n env ρ ρc elt target scope cl ds outs) (hA : AOK n A) (hw : Wd g.W s.heap) (hf : Fok g.W X₀ X env s.heap ρ) (hs : ∀ x, genFold iter env x = pure x) :
    wpAny (model g.prog g.w) A (eval (.GeneratorExp elt [⟨target, iter, [], 0⟩] scope pos) env) (Made1 g n X ds outs s) NoE s := by
  obtain ⟨cc, P, hcc, hCP⟩ := ok.code
  refine wpAny_GeneratorExp_make ok.co ok.clos ok.cell ok.dot ok.kind hA.room (wpAny_mono (hit.run A s hA hw hf) (fun xv s1 h1 => wpAny_mono h1 (fun I s2 ⟨base, wr, St, st, hb1, hb2, it, hst⟩ => ⟨st.wd.nl, ?_⟩) fun _ _ x => x) fun _ _ x => x) hs
  refine gcode hcc hCP st.wd fun code h3 tk3 st3 => ?_
  rw [hf.glob, hf.blt]
  refine ok.bf A _ _ st3.wd fun h' hns hsb => ?_
  dsimp only at hns hsb ⊢
  have st03 : Step g.W s { s2 with heap := h3, toks := tk3 } := st.trans st3
  generalize hCd : h3.objs.size = C at *
  generalize had : h'.objs.size = a at *
  have hCa : C < a := by rw [← had, hsb.1, Heap.size_push, hCd]; exact Nat.lt_succ_self _
  have hCn : g.W.n₀ ≤ C := hCd ▸ st03.wd.sz g.ok
  have han : g.W.n₀ ≤ a := Nat.le_trans hCn (Nat.le_of_lt hCa)
  have up3 : ∀ b o, h3.get? b = some o → h'.get? b = some o := fun b o e => hsb.extBut b o (Nat.ne_of_lt (hCd ▸ Heap.lt_size e)) (Heap.get?_push_of_some _ e)
  generalize hH : h'.push { cls := .type "generator", data := .fields #[.int s2.gens.size 0, .str "<genexpr>" (tk3 + 1), .str (env.qual ++ "<genexpr>") (tk3 + 1 + 1)] } = H at *
  have upH : ∀ b o, h3.get? b = some o → H.get? b = some o := fun b o e => hH ▸ Heap.get?_push_of_some _ (up3 b o e)
  have hga : H.get? a = some { cls := .type "generator", data := .fields #[.int s2.gens.size 0, .str "<genexpr>" (tk3 + 1), .str (env.qual ++ "<genexpr>") (tk3 + 1 + 1)] } := by rw [← hH, ← had]; exact Heap.get?_push_size _ rfl
  have hHs : H.objs.size = a + 1 := by rw [← hH, Heap.size_push, had]
  have h3C : h3.get? C = none := none_of_le (hCd ▸ Nat.le_refl _)
  have h3a : h3.get? a = none := none_of_le (hCd ▸ Nat.le_of_lt hCa)
  have sC : s.heap.get? C = none := st03.free g.ok hCn h3C
  have sa : s.heap.get? a = none := st03.free g.ok han h3a
  have free : ∀ b ∈ wr, g.W.n₀ ≤ b ∧ s.heap.get? b = none := fun b hb => ⟨(it.new b hb).1, by
    cases e : s.heap.get? b with
    | none => rfl
    | some o => have := hb1 b o (Fok.hiT g.ok (it.new b hb).1) e; rw [(it.new b hb).2] at this; cases this⟩
  have lwr3 : ∀ b ∈ wr, ∃ o, h3.get? b = some o := fun b hb => by
    obtain ⟨o, e⟩ := it.live 0 _ hst b hb
    exact ⟨o, st3.kp b o (Fok.hiT g.ok (free b hb).1) e⟩
  have Cwr : C ∉ wr := fun q => by obtain ⟨o, e⟩ := lwr3 _ q; rw [h3C] at e; cases e
  have awr : a ∉ wr := fun q => by obtain ⟨o, e⟩ := lwr3 _ q; rw [h3a] at e; cases e
  have CX : C ∉ X := hf.xok.free sC
  have aX : a ∉ X := hf.xok.free sa
  have stF : Step g.W s { s2 with gens := s2.gens.push (.fresh (.compStart (.GeneratorExp elt [⟨target, iter, [], 0⟩] scope pos) 0 I .none (genEnv scope cl C code builtinsNs env))), toks := tk3 + 1 + 1 + 1, heap := H } := by
    refine ⟨fun b o ht e => upH b o (st03.kp b o ht e), st03.wd.keep g.ok fun b o _ e => upH b o e, ⟨fun i z e => ?_, fun hb => (st.gk.bare hb).push rfl⟩, st.os⟩
    have := st.gk.keep i z e
    rw [Array.getElem?_push]
    split
    · rename_i q; rw [q, Array.getElem?_eq_none (Nat.le_refl _)] at this; cases this
    · exact this
  refine ⟨stF, a, rfl, fun S hS => ?_⟩
  have hgs : s.gens.size ≤ s2.gens.size := by
    rcases Nat.eq_zero_or_pos s.gens.size with h0 | h0
    · omega
    · have hl : s.gens.size - 1 < s.gens.size := by omega
      have := st.gk.keep (s.gens.size - 1) _ (Array.getElem?_eq_getElem hl)
      have := (Array.getElem?_eq_some_iff.mp this).1
      omega
  have hSn : g.W.n₀ ≤ S := hS.elim (fun h => h.2.1) fun h => Nat.le_trans han (Nat.le_trans (Nat.le_succ a) (show a + 1 ≤ S from hHs ▸ h))
  have hHn : ∀ b : Addr, a + 1 ≤ b → H.get? b = none := fun b hb => none_of_le (hHs ▸ hb)
  have Sne : ∀ b o, b ∉ X → H.get? b = some o → b ≠ S := fun b o hb e q => by
    rcases hS with h | h
    · exact hb (q ▸ h.1)
    · rw [q, hHn S (hHs ▸ h)] at e; cases e
  have hCH : ∃ o, H.get? C = some o := by
    obtain ⟨o, _, _, e, _⟩ := hns
    exact ⟨o, hH ▸ Heap.get?_push_of_some _ e⟩
  have CS : C ≠ S := by
    obtain ⟨o, e⟩ := hCH
    exact Sne C o CX e
  have aS : a ≠ S := Sne a _ aX hga
  have wrS : ∀ b ∈ wr, b ≠ S := fun b hb => by
    obtain ⟨o, e⟩ := lwr3 b hb
    exact Sne b o (hf.xok.free (free b hb).2) (upH b o e)
  let c : GCtx := ⟨H, base, X, C, S, wr, I, genEnv scope cl C code builtinsNs env, ρc, ds, outs, St, elt, target, iter, scope, pos⟩
  have hX1 := hf.xok.step g.ok stF
  have gok : GOk g n c := by
    refine ⟨ok.kind, ok.co, rfl, rfl, hf.glob, rfl, fun b hb => GCtx.in_Xr.mpr ⟨hf.T b hb, fun q => ?_⟩, ⟨hCn, Cwr, CX, CS⟩, fun b hb => ⟨(free b hb).1, hf.xok.free (free b hb).2, wrS b hb⟩, hSn, fun b hb => ⟨hf.hi b hb, hX1.live b hb⟩, fun y d hy => ?_, fun y z d hy hz => hf.cinj y z d (ok.sub y d hy) (ok.sub z d hz), fun y sl hy => ?_, it, fun b o hb e => ?_, ok.len, fun j d d' h1 h2 => ?_⟩
    · exact Fok.hiT g.ok hSn (show S ∈ g.W.T from (show b = S from q) ▸ hb)
    · obtain ⟨c1, c2, v, o, e, dd⟩ := hf.cells y d (ok.sub y d hy)
      refine ⟨GCtx.in_Xr.mpr ⟨c1, fun q => ?_⟩, c2, v, o, stF.kp d o (Fok.hiT g.ok c2) e, dd⟩
      rcases hS with ⟨_, _, vs, k, ho⟩ | h
      · rw [show d = S from q, ho] at e; cases e; cases dd
      · have := stF.kp d o (Fok.hiT g.ok c2) e
        have h2 : H.get? d = none := by rw [show d = S from q]; exact hHn S (hHs ▸ h)
        rw [show H.get? d = some o from this] at h2; cases h2
    · obtain ⟨d, e', rfl, h1, h2, h3', h4, h5⟩ := ok.free y sl hy
      obtain ⟨m, v, hn, av, kv⟩ := hf.load h1
      obtain ⟨c1, c2, _⟩ := hf.cells y e' h3'
      rcases av with ⟨k, _⟩ | ⟨_, c', hc', o, e, dd⟩
      · rw [h2] at k; cases k
      · rw [h3'] at hc'; cases hc'
        refine ⟨d, e', v, rfl, h5, h4, ⟨o, stF.kp e' o (Fok.hiT g.ok c2) e, dd⟩, ?_⟩
        refine Rd.mono (fun b o hb e => ⟨fun q => ?_, stF.kp b o (hf.X_T hb) e⟩) kv
        rcases List.mem_cons.mp q with q | q
        · exact Sne b o hb (stF.kp b o (hf.X_T hb) e) q
        · rcases List.mem_cons.mp q with q | q
          · rw [show b = C from q, sC] at e; cases e
          · rcases List.mem_append.mp q with q | q
            · rw [(free b q).2] at e; cases e
            · exact hb (GCtx.in_Xr.mp q).1
    · have h2 := hb2 b o e
      have h3' := st3.kp b o (fun q => hb (hf.T b q)) h2
      exact ⟨upH b o h3', fun q => by rw [show b = C from q] at h3'; rw [show h3.get? C = some o from h3'] at h3C; (cases h3C), fun q => by rw [(it.new b q).2] at e; (cases e), Sne b o hb (upH b o h3')⟩
    · obtain ⟨h3', ρ', ha, he⟩ := ok.turn j d d' h1 h2
      exact ⟨h3', ρ', ha C code, he C code⟩
  have gi0 : GI g c 0 { s2 with gens := s2.gens.push (.fresh (.compStart (.GeneratorExp elt [⟨target, iter, [], 0⟩] scope pos) 0 I .none (genEnv scope cl C code builtinsNs env))), toks := tk3 + 1 + 1 + 1, heap := H } :=
    ⟨stF.wd, fun b o _ _ _ _ e => e, ⟨_, by rw [← hH]; exact hns.push _⟩, it.fr _ _ _ hst fun b hb o e => upH b o (st3.kp b o (Fok.hiT g.ok (free b hb).1) e)⟩
  refine ⟨c, s2.gens.size, rfl, rfl, rfl, rfl, hgs, sC, fun b hb => (free b hb).2, gok, ⟨⟨_, _, _, hga, rfl, rfl, rfl⟩, Fok.hiT g.ok han, Ne.symm (Nat.ne_of_lt hCa), awr, aS⟩, fun A' hA' => ⟨gi0, ⟨.fresh c.code0, ?_, fun s'' x'' => ⟨rfl, gen_start gok (AOK.in1 hA') x''⟩⟩, stF.gk.gx, stF.os⟩⟩
  show (s2.gens.push _)[s2.gens.size]? = _
  rw [Array.getElem?_push_size]; rfl
end
end Mine
set_option Elab.async false
set_option maxRecDepth 100000
set_option linter.unusedVariables false
set_option tactic.hygienic false
namespace Mine
open PySem PyProof.Rows

section
variable {g : G} {n : Nat} {X₀ X : List Addr} {env : Env} {ρ ρc : Rho} {e elt target iter : Expr} {scope : Scope} {cl : List (Str × Addr)} {ds outs : List PyData} {pos p apos spos gpos : Pos} {s s' sB : Shared} {A : Around} {x y : Str} {c : GCtx} {gi : Nat} {a : Addr} {P : Fl → Rho → Prop}

theorem GEnd.kps (ge : GEnd g c gi sB s) (st : Step g.W sB s') (h0 : c.s0 = s'.heap) (hC : sB.heap.get? c.C = none) (hwr : ∀ b ∈ c.wr, sB.heap.get? b = none) : ∀ b o, b ∉ g.W.T → b ≠ c.S → sB.heap.get? b = some o → s.heap.get? b = some o := fun b o ht hS e =>
  ge.kp b o ht (fun q => by rw [q, hC] at e; cases e) (fun q => by rw [hwr b q] at e; cases e) hS (h0 ▸ st.kp b o ht e)
theorem GEnd.gk (ge : GEnd g c gi sB s) (hg : sB.gens.size ≤ gi) : GK sB.gens s.gens := ⟨fun i z e => ge.gx.keep i z (fun q => by
    have := (Array.getElem?_eq_some_iff.mp e).1
    lia) e, ge.gx.bare⟩
theorem GEnd.step (ge : GEnd g c gi sB s) (st : Step g.W sB s') (h0 : c.s0 = s'.heap) (hC : sB.heap.get? c.C = none) (hwr : ∀ b ∈ c.wr, sB.heap.get? b = none) (hg : sB.gens.size ≤ gi) (hS : s'.heap.get? c.S = none) : Step g.W sB s :=
  ⟨fun b o ht e => ge.kps st h0 hC hwr b o ht (fun q => by rw [← q, st.kp b o ht e] at hS; cases hS) e, ge.wd, ge.gk hg, ge.os⟩

theorem args1 {v : Value} {Q : Args → Shared → Prop} {E : Value → Shared → Prop} (hst : starEach [e] env = [(false, eval e env)]) (h : wpAny (model g.prog g.w) A (eval e env) (fun u s1 => Q ⟨[u], []⟩ s1) E s) : wpAny (model g.prog g.w) A (evalArgs v true (backTo pos (starEach [e] env)) []) Q E s := by
  have hb : backTo pos (starEach [e] env) = starEach [e] env := backTo_plain fun q hq => by
    rw [hst] at hq; rw [List.mem_singleton.mp hq]
  have hi : wpAny (model g.prog g.w) A (spliced (backTo pos (starEach [e] env))) (fun vs s' => Q ⟨vs, []⟩ s') E s :=
    wpAny_items_cons (e := e) (rest := []) (wpAny_mono h (fun v s1 h1 => wpAny_items_nil (Q := fun vs s2 => Q ⟨v :: vs, []⟩ s2) h1) fun _ _ x => x) hst
  rw [hb] at hi ⊢
  exact evalArgs_es (fun q hq => by rw [hst] at hq; rw [List.mem_singleton.mp hq]) hi

/-- any, over a generator -/
theorem any_loop (ok : GOk g n c) (ob : GObj g c a gi) (hA : AOK (n + 2) A.in1) {bs : List Bool} (hbs : c.outs = bs.map PyData.bool) {R : Result → Shared → Prop} : ∀ (k j : Nat) (s : Shared), c.ds.length - j = k → j ≤ c.ds.length → GSt g c gi A.in1 sB j s →
    (∀ s', GEnd g c gi sB s' → R (.ok (.ret (.bool ((bs.drop j).any id)))) s') → codeAny (model g.prog g.w) A (.builtin "any.loop" ⟨[.ref a], []⟩) R s := by
  have hlen : bs.length = c.ds.length := by rw [← ok.len, hbs, List.length_map]
  intro k
  induction k with
  | zero =>
    intro j s hk hj x hR
    have hin : j = c.ds.length := ar_z hk hj
    subst hin
    refine codeAny_builtin F.entry_any_loop ?_
    rw [Around.under_plainId F.plain_any_loop _]
    show wpAny _ A.in1 (pyNext (.ref a) >>= _) _ _ s
    refine wpAny_bind (gen_done ok ob hA x fun s' ge _ => wpAny_bind (wpAny_rule (wpAny_pure ?_)))
    have := hR s' ge
    rw [List.drop_of_length_le (Nat.le_of_eq hlen)] at this
    exact this
  | succ k ih =>
    intro j s hk hj x hR
    have hlt : j < c.ds.length := ar_s hk
    have hjb : j < bs.length := by lia
    have hd : bs.drop j = bs[j] :: bs.drop (j + 1) := List.drop_eq_getElem_cons hjb
    refine codeAny_builtin F.entry_any_loop ?_
    rw [Around.under_plainId F.plain_any_loop _]
    show wpAny _ A.in1 (pyNext (.ref a) >>= _) _ _ s
    refine wpAny_bind (gen_item ok ob hA hlt x fun v d s' hdd rd x' _ => ?_)
    rw [hbs, List.getElem?_map, List.getElem?_eq_getElem hjb] at hdd
    cases hdd
    rw [rd.bool_inv]
    refine wpAny_bind (wpAny_holding (wpAny_truthy_bool ?_))
    refine wpAny_bind (wpAny_letGo ?_)
    cases hb : bs[j] with
    | false =>
      simp only [Bool.false_eq_true, if_false]
      refine wpAny_pure ⟨plainId_quiet F.plain_any_loop _, ih (j + 1) _ (ar_n hk) hlt x' fun s'' ge => ?_⟩
      have := hR s'' ge
      rw [hd, List.any_cons, hb] at this
      exact this
    | true =>
      simp only [if_true]
      refine wpAny_bind (wpAny_rule (wpAny_pure ?_))
      have := hR s' x'.fin
      rw [hd, List.any_cons, hb] at this
      exact this
theorem Ev.anyG {f : Str} {bs : List Bool} (hk : env.kindOf f = some .globalImplicit) (hg : g.W.mg f = Option.none) (hb : g.W.mb f = some (.builtin "any")) (hit : EvI g (n + 3) target X₀ X env ρ iter ds) (ok : GenOk g (n + 3) env ρ ρc elt target scope cl ds (bs.map PyData.bool))
    (hs : ∀ x, genFold iter env x = pure x := by intro _; rfl) (hd : (f == ("__debug__" : Str)) = false := by decide) : Ev g (n + 6) X₀ X env ρ (.Call (.Name f p) [.GeneratorExp elt [⟨target, iter, [], 0⟩] scope gpos] [] pos) (.bool (bs.any id)) := .mk fun A s hA hw hf => by
  refine wpAny_Call_NameR (blt_load hw hf hk hg hb (Calls.callWith_builtin rfl (args1 rfl (wpAny_mono (gen_make hit ok (hA.le (by lia)) hw hf hs) (fun v s1 ⟨st, a, hv, mkk⟩ => ?_) fun _ _ x => x))) hd)
  subst hv
  obtain ⟨c, gi, h1, h2, h3, h4, h5, h6, h7, gok, gob, gst⟩ := mkk s1.heap.objs.size (.inr (Nat.le_refl _))
  have hA1 : AOK (n + 3 + 2) A.in1 := AOK.in1 hA
  refine call_function_tree F.kind_any F.plain_any F.entry_any (F.args_any1 _) ?_
  unfold Builtin.«any»
  refine wpAny_bind (m := oneArg "any" _) (wpAny_pure ?_)
  refine wpAny_bind (gen_self gob (gst _ hA1) ?_)
  refine wpAny_pure ⟨plainId_quiet F.plain_any_loop _, any_loop gok gob hA1 h3 c.ds.length 0 s1 (Nat.sub_zero _) (Nat.zero_le _) (gst _ hA1) fun s' ge => ⟨ge.step st h4 h6 h7 h5 (h1 ▸ get_size _), ?_⟩⟩
  rw [List.drop_zero]; exact .bool _

/-- join, over a generator -/
theorem strs_of {h : Heap} : ∀ {xs : List Str} {vs : List Value}, RdAll [] h vs (strD xs) → ∃ l : List (Str × Tok), strValues l = vs ∧ l.map (·.1) = xs
  | [], _, r => by cases r; exact ⟨[], rfl, rfl⟩
  | x :: xs, _, r => by
    cases r with
    | cons a b =>
      obtain ⟨t, rfl⟩ := a.str_inv
      obtain ⟨l, rfl, e⟩ := strs_of b
      exact ⟨(x, t) :: l, rfl, by simp [e]⟩
theorem Ev.joinG {xs : List Str} (ho : Ev g (n + 7) X₀ X env ρ (.Constant (.str x) 0 p) (.str x)) (hit : EvI g (n + 3) target X₀ X env ρ iter ds) (ok : GenOk g (n + 3) env ρ ρc elt target scope cl ds (strD xs))
    (hz : (xs.map (·.length)).sum + xs.length * x.length ≤ 1048576) (hl : xs.length ≤ 65536)
    (hs : ∀ x, genFold iter env x = pure x := by intro _; rfl) (hbase : attributeBase (.Constant (.str x) 0 p) "join" env (eval (.Constant (.str x) 0 p) env) = eval (.Constant (.str x) 0 p) env := by rfl) (hline : (apos.endLine == pos.line) = true := by rfl) :
    Ev g (n + 7) X₀ X env ρ (.Call (.Attribute (.Constant (.str x) 0 p) "join" apos) [.GeneratorExp elt [⟨target, iter, [], 0⟩] scope gpos] [] pos) (.str (Txt.join x xs)) := .mk fun A s hA hw hf => by
  refine wpAny_Call_method hbase rfl hline F.plainAttrs_str F.slot_str_join F.type_str_join (ho.use hA (.refl hw) hf fun ov s0 st0 _ hf0 r0 => ⟨r0.type.1, r0.type.2, ?_⟩)
  obtain ⟨t, rfl⟩ := r0.str_inv
  refine Calls.callWith_builtin rfl (args1 rfl (wpAny_mono (gen_make hit ok (hA.le (by lia)) st0.wd hf0 hs) (fun v s1 ⟨st, a, hv, mkk⟩ => ?_) fun _ _ x => x))
  subst hv
  obtain ⟨c, gi, h1, h2, h3, h4, h5, h6, h7, gok, gob, gst⟩ := mkk s1.heap.objs.size (.inr (Nat.le_refl _))
  have hA1 : AOK (n + 3 + 2) A.in1.in1 := AOK.in1 (AOK.in1 hA)
  have x1 := gst _ hA1
  show wpAny _ A (call (.builtin "str.join") [.str x t, .ref a]) _ _ s1
  refine wpAny_call (codeAny_call_builtin F.slot_str_join.plain F.entry_str_join (F.slot_str_join.check _ _ _ _ _ _ _ _ (typeIs_str _ _ _) (F.args_str_join_2 _ _) ?_))
  rw [join_tree_other]
  refine wpAny_bind (wpAny_typeOf (x1.i.gen gob).typeIs ?_)
  show wpAny _ A.in1 ((pyIter (.ref a)).tryCatch _ >>= fun it => collect it >>= fun items => joinTail x items) _ _ s1
  refine wpAny_bind (wpAny_tryCatch (gen_self gob x1 ?_))
  refine wpAny_bind ?_
  unfold collect
  refine wpAny_bind (wpAny_runValue (codeAny_builtin F.entry_proto_collect ?_))
  rw [Around.under_plainId F.plain_proto_collect _]
  show wpAny _ A.in1.in1 (newList [] >>= fun l => again (.builtin "list.__iadd__" ⟨[l, .ref a], []⟩)) _ _ s1
  refine wpAny_bind (wpAny_newObj_type ?_)
  refine wpAny_pure ⟨plainId_quiet F.plain_list_iadd _, codeAny_builtin F.entry_list_iadd ?_⟩
  rw [Around.under_plainId F.plain_list_iadd _]
  have hlen : c.ds.length = xs.length := by rw [← gok.len, h3]; simp [strD]
  have x2 := x1.frame gok (h' := s1.heap.push { cls := .type "list", data := .seq ([] : List Value).toArray }) (tk := s1.toks) fun b o _ e => Heap.get?_push_of_some _ e
  show wpAny _ A.in1.in1 (Builtin.List.listExtendWith (.ref s1.heap.objs.size) (.ref a) (.ref s1.heap.objs.size)) _ _ _
  rw [← h1]
  have key := ext_with (A := A.in1) gok gob hA1 (acc := []) (m := 0) (res := .ref c.S) (R := fun r s' => r = .ok (.ret (.ref c.S)) ∧ ∃ vs m', GEnd g c gi s0 s' ∧ s'.heap.get? c.S = some (lstObj ([] ++ vs) m') ∧ RdAll [] s'.heap vs c.outs) x2 (by rw [h1]; exact Heap.get?_push_size _ rfl) (by rw [hlen]; simp; lia) fun s' vs m' ge hS ra => ⟨rfl, vs, m', ge, hS, ra⟩
  suffices fin : ∀ r s', (r = Except.ok (Flow.ret (Value.ref c.S)) ∧ ∃ vs m', GEnd g c gi s0 s' ∧ s'.heap.get? c.S = some (lstObj ([] ++ vs) m') ∧ RdAll [] s'.heap vs c.outs) → _ from
    wpAny_mono key (fun f s' h => match f with | .done f => fin _ s' h | .again c' => ⟨h.1, codeAny_mono h.2 fin⟩) fun e s' h => fin _ s' h
  rintro r s' ⟨rfl, vs, m', ge, hS, ra⟩
  show wpAny _ A.in1 (load c.S >>= _) _ _ s'
  refine wpAny_bind (wpAny_load hS ?_)
  refine wpAny_pure ?_
  rw [h3] at ra
  obtain ⟨l, hl1, hl2⟩ := strs_of ra
  have hok : JoinOk x (l.map (·.1)) = true := by rw [hl2]; exact joinOk_of (by lia)
  unfold JoinOk at hok
  rw [Bool.not_eq_true'] at hok
  have gg : Gives (joinTail x (strValues l)) (joinMade x l) := by
    have g0 := gives_joinTail x l hok
    cases l with
    | nil => exact g0
    | cons p r => cases r with
      | nil => exact g0
      | cons q r' => exact g0
  show wpAny _ A.in1 (joinTail x ([] ++ vs).toArray.toList) _ _ s'
  have ev : ([] ++ vs).toArray.toList = strValues l := by simp [hl1]
  rw [ev]
  have stp := ge.step st h4 h6 h7 h5 (h1 ▸ get_size _)
  exact gg g.prog g.w A (wants (fun v s2 => Step g.W s s2 ∧ Rd X s2.heap v (.str (Txt.join x xs))) NoE) s' (post_join l ⟨joinFit_length hok, fun t' k => ⟨(st0.trans stp).toks, hl2 ▸ .str ..⟩⟩)
end
end Mine
set_option Elab.async false
set_option maxRecDepth 100000
set_option linter.unusedVariables false
set_option tactic.hygienic false
namespace Mine
open PySem PyProof.Rows

section
variable {g : G} {n : Nat} {X₀ X : List Addr} {env : Env} {ρ ρc : Rho} {e elt target iter : Expr} {scope : Scope} {cl : List (Str × Addr)} {ds ds₀ outs : List PyData} {pos p apos tpos gpos : Pos} {s s' sB : Shared} {A : Around} {x y : Str} {c : GCtx} {gi : Nat} {a : Addr} {P : Fl → Rho → Prop}

/-- the own list at x turns, and tables may -/
theorem Fok.turn {vs vs' : List Value} {k k' : Nat} {h' : Heap} {ds' : List PyData} (F : Fok g.W X₀ X env s.heap ρ) (hx : ρ.lookup x = some (.own ds)) {m : Str → Option Value} (hn0 : s.heap.Ns env.locals m) (av : At env s.heap m x (.ref a))
    (ho : s.heap.get? a = some (lstObj vs k)) (haX : a ∈ X) (haB : g.W.n₀ ≤ a ∧ a ∉ X₀) (hw' : Wd g.W h') (kp : ∀ b o, b ∉ g.W.T → b ≠ a → s.heap.get? b = some o → h'.get? b = some o) (ho' : h'.get? a = some (lstObj vs' k')) (ra : RdAll X h' vs' ds') : Fok g.W X₀ X env h' ((x, .own ds') :: ρ) := by
  obtain ⟨m', hn, hv, hs⟩ := F.ns
  have hmm : m' = m := funext fun z => hn.agree hn0 z
  subst hmm
  have hLa : env.locals ≠ a := fun q => by
    obtain ⟨o, es, ep, e1, e2, _⟩ := hn
    rw [q, ho] at e1; cases e1; cases e2
  have cell_ne : ∀ y c, env.cells.lookup y = some c → c ≠ a := fun y c hy q => by
    obtain ⟨_, _, u, o, eo, du⟩ := F.cells y c hy
    rw [q, ho] at eo; cases eo; cases du
  have kc : ∀ y c o, env.cells.lookup y = some c → s.heap.get? c = some o → h'.get? c = some o := fun y c o hy e => kp c o (Fok.hiT g.ok (F.cells y c hy).2.1) (cell_ne y c hy) e
  have back : ∀ {y : Str} {u : Value}, At env h' m' y u → At env s.heap m' y u := by
    intro y u ay
    rcases ay with ⟨k1, k2⟩ | ⟨k1, c, k2, o, k3, k4⟩
    · exact .inl ⟨k1, k2⟩
    · obtain ⟨_, _, _, o', e', d'⟩ := F.cells y c k2
      have := kc y c o' k2 e'
      rw [this] at k3; cases k3
      exact .inr ⟨k1, c, k2, _, e', k4⟩
  have rdm : ∀ b o, b ∉ X → s.heap.get? b = some o → b ∉ X ∧ h'.get? b = some o := fun b o hb e => ⟨hb, kp b o (F.X_T hb) (fun q => hb (q ▸ haX)) e⟩
  refine ⟨F.kind, F.X0, F.glob, F.blt, F.T0, fun b hb' => ?_, F.hi, F.L, fun y c hy => ?_, F.cown, F.cinj, m', hn.at' fun o e => kp _ o (Fok.hiT g.ok F.L.2.1) hLa e, fun y sl hy => ?_, fun y z es fs b c hyz hy hz ay az => ?_⟩
  · by_cases q : b = a
    · subst q; exact ⟨_, ho'⟩
    · rcases F.hi b hb' with ht | hg
      · exact hw'.live ht
      · obtain ⟨o, e⟩ := F.live b hb'
        exact ⟨o, kp b o (Fok.hiT g.ok hg) q e⟩
  · obtain ⟨c1, c2, u, o, eo, du⟩ := F.cells y c hy
    exact ⟨c1, c2, u, o, kc y c o hy eo, du⟩
  · rcases lookup_own hy with ⟨qy, rfl⟩ | ⟨hne, hy1⟩
    · subst qy
      exact ⟨_, av.step fun c o hc e => kc y c o hc e, a, vs', k', rfl, haX, haB, ho', ra⟩
    · obtain ⟨u, au, ku⟩ := hv y sl hy1
      refine ⟨u, au.step fun c o hc e => kc y c o hc e, ?_⟩
      cases sl with
      | fz d => exact Rd.mono rdm ku
      | own es =>
        obtain ⟨b, ws, k2, e1, e2, e3, e4, e5⟩ := ku
        subst e1
        have hba : b ≠ a := (hs x y ds es a b (Ne.symm hne) hx hy1 av au).symm
        exact ⟨b, ws, k2, rfl, e2, e3, kp b _ (Fok.hiT g.ok e3.1) hba e4, RdAll.mono rdm e5⟩
  · have fix : ∀ {y : Str} {es : List PyData}, List.lookup y ((x, VSlot.own ds') :: ρ) = some (.own es) → ∃ es', ρ.lookup y = some (.own es') := by
      intro y es hy
      rcases lookup_own hy with ⟨qy, _⟩ | ⟨_, hy1⟩
      · exact ⟨ds, qy ▸ hx⟩
      · exact ⟨es, hy1⟩
    obtain ⟨es', hy'⟩ := fix hy
    obtain ⟨fs', hz'⟩ := fix hz
    exact hs y z es' fs' b c hyz hy' hz' (back ay) (back az)

theorem Ex1.extG (hx : ρ.lookup x = some (.own ds₀)) (hit : ∀ X, EvI g (n + 3) target X₀ X env ρ iter ds) (ok : GenOk g (n + 3) env ρ ρc elt target scope cl ds outs) (hz : ds₀.length + ds.length ≤ 65536) (hp : P .next ((x, .own (ds₀ ++ outs)) :: ρ))
    (hf' : ∀ x, genFold iter env x = pure x := by intro _; rfl) (hd : ((x == ("__debug__" : Str)) || (x == ("__classdict__" : Str))) = false := by decide) (hbase : attributeBase (.Name x p) "extend" env (eval (.Name x p) env) = eval (.Name x p) env := by rfl) (hline : (apos.endLine == tpos.line) = true := by rfl)
    (hi : interactive env = false := by rfl) (hs : swapsWith (.Call (.Attribute (.Name x p) "extend" apos) [.GeneratorExp elt [⟨target, iter, [], 0⟩] scope gpos] [] tpos) none pos.line env = pure false := by rfl) :
    Ex1 g (n + 6) X₀ env ρ (.Expr (.Call (.Attribute (.Name x p) "extend" apos) [.GeneratorExp elt [⟨target, iter, [], 0⟩] scope gpos] [] tpos) pos) P := .mk fun X A s hA hw hf => by
  obtain ⟨h1, h2⟩ := Bool.or_eq_false_iff.mp hd
  obtain ⟨m, v, hn, av, a, vs, k, rfl, haX, haB, ho, ra⟩ := hf.load hx
  refine wpAny_Expr ?_ hi hs
  refine wpAny_Call_method hbase rfl hline F.plainAttrs_list F.slot_list_extend F.type_list_extend (wpAny_Name (load_at hf.kind hn av ⟨⟨_, ho, rfl⟩, fun b q => by cases q; exact ⟨_, ho, rfl⟩, ?_⟩ h2) h1)
  refine Calls.callWith_builtin rfl (args1 rfl (wpAny_mono (gen_make (hit X) ok (hA.le (by lia)) hw hf hf') (fun v s1 ⟨st, b, hv, mkk⟩ => ?_) fun _ _ x => x))
  subst hv
  obtain ⟨c, gi, q1, q2, q3, q4, q5, q6, q7, gok, gob, gst⟩ := mkk a (.inl ⟨haX, haB.1, vs, k, ho⟩)
  have hA1 : AOK (n + 3 + 2) A.in1 := AOK.in1 hA
  have ho1 := st.kp a _ (Fok.hiT g.ok haB.1) ho
  show wpAny _ A (call (.builtin "list.extend") [.ref a, .ref b]) _ _ s1
  refine wpAny_call (codeAny_call_builtin F.slot_list_extend.plain F.entry_list_extend (F.slot_list_extend.check _ _ _ _ _ _ _ _ (show s1.TypeIs (.ref a) "list" from ⟨_, ho1, rfl⟩) (F.args_list_extend_2 _ _) ?_))
  have hlen : vs.length = ds₀.length := ra.length
  have key := ext_with (A := A) (s := s1) (sB := s) gok gob hA1 (acc := vs) (m := k) (res := .none) (R := fun r s' => r = .ok (.ret .none) ∧ ∃ ws m', GEnd g c gi s s' ∧ s'.heap.get? c.S = some (lstObj (vs ++ ws) m') ∧ RdAll [] s'.heap ws c.outs) (gst _ hA1) (q1 ▸ ho1) (by rw [hlen, q2]; lia) fun s' ws m' ge hS rw' => ⟨rfl, ws, m', ge, hS, rw'⟩
  show wpAny _ A.in1 (Builtin.List.listExtendWith (.ref a) (.ref b) .none) _ _ _
  rw [q1] at key
  suffices fin : ∀ r s', (r = Except.ok (Flow.ret Value.none) ∧ ∃ ws m', GEnd g c gi s s' ∧ s'.heap.get? a = some (lstObj (vs ++ ws) m') ∧ RdAll [] s'.heap ws c.outs) → _ from
    wpAny_mono key (fun f s' h => match f with | .done f => fin _ s' h | .again c' => ⟨h.1, codeAny_mono h.2 fin⟩) fun e s' h => fin _ s' h
  rintro r s' ⟨rfl, ws, m', ge, hS, rws⟩
  have kp : ∀ b o, b ∉ g.W.T → b ≠ a → s.heap.get? b = some o → s'.heap.get? b = some o := fun b o ht hb e => ge.kps st q4 q6 q7 b o ht (q1.symm ▸ hb) e
  have rd2 : RdAll X s'.heap ws outs := by
    rw [q3] at rws
    have hsc : ∀ (j : Nat) d', outs[j]? = some d' → Scalar d' := fun j d' hj => by
      have hjl : j < ds.length := by rw [← ok.len]; exact (List.getElem?_eq_some_iff.mp hj).1
      exact (ok.turn j _ d' (List.getElem?_eq_getElem hjl) hj).1
    clear ok
    have : ∀ (os : List PyData) (ws : List Value), (∀ (j : Nat) d', os[j]? = some d' → Scalar d') → RdAll [] s'.heap ws os → RdAll X s'.heap ws os := by
      intro os
      induction os with
      | nil => intro ws _ r; cases r; exact .nil
      | cons d os ih =>
        intro ws hsc r
        cases r with
        | cons r1 r2 => exact .cons (r1.scalar (hsc 0 d rfl)) (ih _ (fun j d' hj => hsc (j + 1) d' hj) r2)
    exact this _ _ hsc rws
  have ra' : RdAll X s'.heap vs ds₀ := ra.mono fun b o hb e => ⟨hb, kp b o (hf.X_T hb) (fun q => hb (q ▸ haX)) e⟩
  exact ⟨X, _, .next, ⟨fun b o ht hb e => kp b o ht (fun q => haB.2 (q ▸ hb (q ▸ haX))) e, fun _ h => .inl h, hf.T, ge.wd, ge.gk q5, ge.os⟩, hf.turn hx hn av ho haX haB ge.wd kp hS (ra'.append rd2), trivial, hp⟩
end
end Mine
set_option Elab.async false
set_option maxRecDepth 100000
set_option linter.unusedVariables false
set_option tactic.hygienic false
namespace Mine
open PySem PyProof.Rows

theorem zip_getattr_none : typeLookup (.type "zip") "__getattr__" = pure none := by rw [typeLookup_type, builtinLookup_eq_fast]; kernel_rfl
theorem zip_keys_none : typeLookup (.type "zip") "keys" = pure none := by rw [typeLookup_type, builtinLookup_eq_fast]; kernel_rfl
theorem entry_zip_getattribute : entryFor table "zip.__getattribute__" = some Builtin.«object.__getattribute__» :=
  entryFor_alias (id' := "object.__getattribute__") (by kernel_rfl) (by decide +kernel) (by decide +kernel) (by kernel_rfl)
theorem meets_zip_keys (a : Addr) (fs : Array Value) (u : Tok) :
    Meets (Builtin.«object.__getattribute__» ⟨[.ref a, .str "keys" u], []⟩) (fun A R s => s.heap.get? a = some { cls := .type "zip", dict := none, data := .fields fs, slots := #[] } ∧ raisesAttr (.ref a) "keys" A R s) :=
  Meets.of_wp fun prog w A R s hs => by
    obtain ⟨hp, g, d, tk, os⟩ := s
    obtain ⟨hx, hs⟩ := hs
    have hT : (⟨hp, g, d, tk, os⟩ : Shared).TypeIs (.ref a) "zip" := ⟨_, hx, rfl⟩
    have hmiss := zip_keys_none
    have hname : (["__module__", "__name__", "__qualname__", "__doc__", "__annotations__"] : List Str).contains "keys" = false := by decide
    unfold Builtin.«object.__getattribute__»
    repeat (any_goals (first | assumption | wp_step))
    try simp only [hname, Bool.false_eq_true, if_false]
    repeat (any_goals (first | assumption | wp_step))
    exact wpAny_raiseAttrError hs.1 hs.2 (attrMsg_fits (by decide +kernel) (by decide))
theorem no_keys {prog : Program} {w : World} {A : Around} {E : Value → Shared → Prop} {s : Shared} {a : Addr} {fs : Array Value} {Q : Option Value → Shared → Prop} (hA : A.handled = none)
    (hx : s.heap.get? a = some { cls := .type "zip", dict := none, data := .fields fs, slots := #[] }) (h : ∀ h' tk, (∀ b o, s.heap.get? b = some o → h'.get? b = some o) → Q none { s with heap := h', toks := tk }) :
    wpAny (model prog w) A (getAttr? (.ref a) "keys") Q E s := by
  obtain ⟨hp, g, d, tk, os⟩ := s
  have hT : ∀ tk', (⟨hp, g, d, tk', os⟩ : Shared).TypeIs (.ref a) "zip" := fun _ => ⟨_, hx, rfl⟩
  have f1 := sub_AttributeError
  have f3 := F.slot_zip_getattribute.lookup
  have f4 := F.slot_zip_getattribute.bind (.ref a)
  have f5 := zip_getattr_none
  unfold getAttr? getAttrBy? getAttrBy
  repeat (any_goals (first | assumption | exact hT _ | ((with_reducible show wpAny _ _ (call (Value.builtin "zip.__getattribute__") _ _) _ _ _); refine call_meets F.slot_zip_getattribute (hT _) entry_zip_getattribute (F.args_zip_getattribute_2 _ _) (meets_zip_keys a fs _) ⟨hx, hA, fun h' tk' e hx' => ?_⟩) | wp_step))
  obtain ⟨t', u', he⟩ := hx'.there
  show wpAny _ _ (getattributeRaised _ _ _ _ _ _ _) _ _ _
  unfold getattributeRaised
  repeat (any_goals (first | assumption | wp_step))
  exact h _ _ hx'.keeps
end Mine
set_option Elab.async false
set_option maxRecDepth 100000
set_option linter.unusedVariables false
set_option tactic.hygienic false
namespace Mine
open PySem PyProof.Rows

noncomputable abbrev IsZipB (h : Heap) (z TI TO T : Addr) (b : Bool) : Prop :=
  h.get? z = some { cls := .type "zip", dict := none, data := .fields #[rawInt T, .bool b, .bool false, .ref TI, .ref TO], slots := #[] }

section
variable {prog : Program} {w : World} {A : Around} {E : Value → Shared → Prop} {s : Shared}
theorem wpAny_loadIfAlive {M : Model} {a : Addr} {Q : Option Obj → Shared → Prop} (h : Q (s.heap.get? a) s) : wpAny M A (loadIfAlive a) Q E s := by
  intro Γ p hΓ
  unfold loadIfAlive
  rw [Sem.wp_loadIfAlive]
  exact h

theorem not_free {z TI TO T : Addr} {b : Bool} {oT : Obj} {Q : Bool → Shared → Prop} (hz : IsZipB s.heap z TI TO T b) (hT : s.heap.get? T = some oT) (h : ∀ h', IsZipB h' z TI TO T true → Heap.SameBut z s.heap h' → Q false { s with heap := h' }) :
    wpAny (model prog w) A (Builtin.SmallTypes.ownedTupleIsFree (.ref z)) Q E s := by
  unfold Builtin.SmallTypes.ownedTupleIsFree
  refine wpAny_bind (wpAny_field hz rfl (x := rawInt T) rfl ?_)
  show wpAny _ _ (loadIfAlive ((T : Int).toNat) >>= _) _ _ s
  refine wpAny_bind (wpAny_loadIfAlive ?_)
  rw [Int.toNat_natCast, hT]
  simp only [Option.isNone_some, Bool.false_eq_true, if_false]
  refine wpAny_bind (wpAny_field hz rfl (x := .bool b) rfl ?_)
  cases b with
  | false =>
    rw [if_pos (by decide)]
    exact wpAny_bind (wpAny_setField_rec hz (by simp) fun h' hz' hs' => wpAny_pure (h h' hz' hs'))
  | true =>
    rw [if_neg (by decide)]
    exact wpAny_pure (h s.heap hz (.refl ..))

theorem zip2_item {z TI TO T i1 i2 l1 l2 : Addr} {b : Bool} {oT : Obj} {k1 k2 : Nat} {xs ys : Array Value} {x y : Value} {Q : Option Value → Shared → Prop} (D : ZipApart z TI TO i1 i2 l1 l2)
    (hz : IsZipB s.heap z TI TO T b) (hT : s.heap.get? T = some oT) (hTI : IsPair s.heap TI (.ref i1) (.ref i2))
    (h1 : s.heap.IsListIter i1 l1 k1) (h2 : s.heap.IsListIter i2 l2 k2) (hl1 : s.heap.IsList l1 xs) (hl2 : s.heap.IsList l2 ys) (hx : xs[k1]? = some x) (hy : ys[k2]? = some y)
    (hQ : ∀ h', IsZipB h' z TI TO T true → h'.IsListIter i1 l1 (k1 + 1) → h'.IsListIter i2 l2 (k2 + 1) → IsPair h' s.heap.objs.size x y →
      (∀ c o, c ≠ z → c ≠ i1 → c ≠ i2 → s.heap.get? c = some o → h'.get? c = some o) → Q (some (.ref s.heap.objs.size)) { s with heap := h' }) :
    wpAny (model prog w) A (pyNext (.ref z)) Q E s := by
  have hTy : s.TypeIs (.ref z) "zip" := ⟨_, hz, rfl⟩
  unfold pyNext
  refine wpAny_bind (wpAny_attempt (wpAny_callSpecial?_slot (name := Str.ofString "__next__") hTy F.slot_zip_next
    (wpAny_call_entry F.slot_zip_next hTy F.entry_zip_next ?_ (F.args_zip_next_1 _))))
  show wpAny _ _ (field (.ref z) 2 >>= _) _ _ _
  refine wpAny_bind (wpAny_field hz rfl (x := .bool false) rfl ?_)
  show wpAny _ _ (field (.ref z) 3 >>= _) _ _ _
  refine wpAny_bind (wpAny_field hz rfl (x := .ref TI) rfl ?_)
  refine wpAny_bind (wpAny_seqItems hTI rfl ?_)
  show wpAny _ _ (Builtin.SmallTypes.ownedTupleIsFree (.ref z) >>= _) _ _ _
  refine wpAny_bind (not_free hz hT fun h₁ hz₁ hs₁ => ?_)
  simp only [Bool.false_eq_true, if_false]
  simp only [← Array.forIn_toList, List.forIn_cons, List.forIn_nil]
  refine wpAny_bind (wpAny_bind (wpAny_bind (wpAny_holding ?_)))
  show wpAny _ _ (Builtin.SmallTypes.nextOf (.ref i1) >>= _) _ _ _
  refine wpAny_bind (wpAny_nextOf_list_item (h1.extBut hs₁.extBut D.i1z) (hl1.extBut hs₁.extBut D.l1z) hx fun h₂ h1₂ hs₂ => wpAny_pure ?_)
  refine wpAny_pure ?_
  refine wpAny_bind (wpAny_bind (wpAny_holding ?_))
  show wpAny _ _ (Builtin.SmallTypes.nextOf (.ref i2) >>= _) _ _ _
  refine wpAny_bind (wpAny_nextOf_list_item ((h2.extBut hs₁.extBut D.i2z).extBut hs₂.extBut D.i12.symm) ((hl2.extBut hs₁.extBut D.l2z).extBut hs₂.extBut D.l2i1) hy fun h₃ h2₃ hs₃ => wpAny_pure ?_)
  refine wpAny_pure ?_
  refine wpAny_pure ?_
  have hs₁ : Heap.SameBut z s.heap h₁ := hs₁
  have hs₂ : Heap.SameBut i1 h₁ h₂ := hs₂
  have hs₃ : Heap.SameBut i2 h₂ h₃ := hs₃
  have hsz : h₃.objs.size = s.heap.objs.size := by rw [hs₃.1, hs₂.1, hs₁.1]
  show wpAny _ _ (newTuple [x, y] >>= _) _ _ _
  refine wpAny_bind (wpAny_newTuple (wpAny_pure ⟨_, rfl, wpAny_pure ?_⟩))
  show Q (some (.ref h₃.objs.size)) _
  rw [hsz]
  refine hQ (h₃.push { cls := .type "tuple", data := .seq #[x, y] }) (Heap.get?_push_of_some _ (hs₃.extBut _ _ D.i2z.symm (hs₂.extBut _ _ D.i1z.symm hz₁))) ?_ ?_ (by rw [← hsz]; exact Heap.get?_push_size _ rfl) fun c o c1 c2 c3 e => Heap.get?_push_of_some _ (hs₃.extBut _ _ c3 (hs₂.extBut _ _ c2 (hs₁.extBut _ _ c1 e)))
  · exact (h1₂.extBut hs₃.extBut D.i12).at fun o e => Heap.get?_push_of_some _ e
  · exact h2₃.at fun o e => Heap.get?_push_of_some _ e

theorem zip2_end {z TI TO T i1 i2 l1 l2 : Addr} {b : Bool} {oT : Obj} {k1 k2 : Nat} {xs ys : Array Value} {Q : Option Value → Shared → Prop} (hh : A.handled = none) (D : ZipApart z TI TO i1 i2 l1 l2)
    (hz : IsZipB s.heap z TI TO T b) (hT : s.heap.get? T = some oT) (hTI : IsPair s.heap TI (.ref i1) (.ref i2))
    (h1 : s.heap.IsListIter i1 l1 k1) (h2 : s.heap.IsListIter i2 l2 k2) (hl1 : s.heap.IsList l1 xs) (hl2 : s.heap.IsList l2 ys) (hend : xs[k1]? = none ∨ ys[k2]? = none)
    (hQ : ∀ h', (∀ c o, c ≠ z → c ≠ i1 → c ≠ i2 → s.heap.get? c = some o → h'.get? c = some o) → Q none { s with heap := h' }) :
    wpAny (model prog w) A (pyNext (.ref z)) Q E s := by
  have hTy : s.TypeIs (.ref z) "zip" := ⟨_, hz, rfl⟩
  unfold pyNext
  refine wpAny_bind (wpAny_attempt (wpAny_callSpecial?_slot (name := Str.ofString "__next__") hTy F.slot_zip_next
    (wpAny_call_entry F.slot_zip_next hTy F.entry_zip_next ?_ (F.args_zip_next_1 _))))
  have stop : ∀ (h' : Heap) (e : Addr), (∀ c o, c ≠ z → c ≠ i1 → c ≠ i2 → s.heap.get? c = some o → h'.get? c = some o) → (∃ o, h'.get? e = some o ∧ o.cls = .type "StopIteration") →
      wpAny (model prog w) A (do if ← isInstance (.ref e) (.type "StopIteration") then pure none else throw (.ref e)) Q E { s with heap := h' } := fun h' e hk he => by
    obtain ⟨o, ho, hc⟩ := he
    refine wpAny_bind (wpAny_isInstance (T := "StopIteration") (b := true) ⟨o, ho, hc⟩ isSubtype_stop ?_)
    exact wpAny_pure (hQ _ hk)
  show wpAny _ _ (field (.ref z) 2 >>= _) _ _ _
  refine wpAny_bind (wpAny_field hz rfl (x := .bool false) rfl ?_)
  show wpAny _ _ (field (.ref z) 3 >>= _) _ _ _
  refine wpAny_bind (wpAny_field hz rfl (x := .ref TI) rfl ?_)
  refine wpAny_bind (wpAny_seqItems hTI rfl ?_)
  show wpAny _ _ (Builtin.SmallTypes.ownedTupleIsFree (.ref z) >>= _) _ _ _
  refine wpAny_bind (not_free hz hT fun h₁ hz₁ hs₁ => ?_)
  simp only [Bool.false_eq_true, if_false]
  simp only [← Array.forIn_toList, List.forIn_cons, List.forIn_nil]
  refine wpAny_bind (wpAny_bind (wpAny_bind (wpAny_holding ?_)))
  show wpAny _ _ (Builtin.SmallTypes.nextOf (.ref i1) >>= _) _ _ _
  have hs₁ : Heap.SameBut z s.heap h₁ := hs₁
  cases hx : xs[k1]? with
  | none => exact wpAny_bind (wpAny_nextOf_list_end hh (h1.extBut hs₁.extBut D.i1z) (hl1.extBut hs₁.extBut D.l1z) hx fun h₂ e hs₂ he => stop h₂ e (fun c o c1 c2 c3 x => hs₂ _ _ c2 (hs₁.extBut _ _ c1 x)) he)
  | some x =>
    have hy : ys[k2]? = none := by rcases hend with h | h; rw [hx] at h; cases h; exact h
    refine wpAny_bind (wpAny_nextOf_list_item (h1.extBut hs₁.extBut D.i1z) (hl1.extBut hs₁.extBut D.l1z) hx fun h₂ h1₂ hs₂ => wpAny_pure ?_)
    have hs₂ : Heap.SameBut i1 h₁ h₂ := hs₂
    refine wpAny_pure ?_
    refine wpAny_bind (wpAny_bind (wpAny_holding ?_))
    show wpAny _ _ (Builtin.SmallTypes.nextOf (.ref i2) >>= _) _ _ _
    exact wpAny_bind (wpAny_nextOf_list_end hh ((h2.extBut hs₁.extBut D.i2z).extBut hs₂.extBut D.i12.symm) ((hl2.extBut hs₁.extBut D.l2z).extBut hs₂.extBut D.l2i1) hy fun h₃ e hs₃ he => stop h₃ e (fun c o c1 c2 c3 x => hs₃ _ _ c3 (hs₂.extBut _ _ c2 (hs₁.extBut _ _ c1 x))) he)
end
end Mine
set_option Elab.async false
set_option maxRecDepth 100000
set_option linter.unusedVariables false
set_option tactic.hygienic false
namespace Mine
open PySem PyProof.Rows

theorem entry_update_loop : entryFor table "dict.update.loop" = some Builtin.«dict.update.loop» := entryFor_of_tree (by kernel_rfl)
theorem plain_update_loop : plainId "dict.update.loop" = true := by decide +kernel

structure ZSt (z TI TO i1 i2 l1 l2 d : Addr) (xs ys : Array Value) (j : Nat) (h : Heap) : Prop where
  z : IsZip h z TI TO .none ∨ ∃ T b oT, (T ≠ z ∧ T ≠ TO ∧ T ≠ i1 ∧ T ≠ i2 ∧ T ≠ d) ∧ h.get? T = some oT ∧ IsZipB h z TI TO T b
  TI : IsPair h TI (.ref i1) (.ref i2)
  TO : ∃ a b, IsPair h TO a b
  i1 : h.IsListIter i1 l1 j
  i2 : h.IsListIter i2 l2 j
  l1 : h.IsList l1 xs
  l2 : h.IsList l2 ys

section
variable {g : G} {prog : Program} {w : World} {A : Around} {E : Value → Shared → Prop} {s : Shared} {z TI TO i1 i2 l1 l2 d : Addr} {xs ys : Array Value} {j : Nat}

theorem zst_item {x y : Value} {Q : Option Value → Shared → Prop} (D : ZipApart z TI TO i1 i2 l1 l2) (hd : d < s.heap.objs.size) (st : ZSt z TI TO i1 i2 l1 l2 d xs ys j s.heap) (hx : xs[j]? = some x) (hy : ys[j]? = some y)
    (hQ : ∀ h', ZSt z TI TO i1 i2 l1 l2 d xs ys (j + 1) h' → IsPair h' s.heap.objs.size x y → (∀ c o, c ≠ z → c ≠ TO → c ≠ i1 → c ≠ i2 → s.heap.get? c = some o → h'.get? c = some o) → Q (some (.ref s.heap.objs.size)) { s with heap := h' }) :
    wpAny (model prog w) A (pyNext (.ref z)) Q E s := by
  obtain ⟨hz, hTI, ⟨a, b, hTO⟩, h1, h2, hl1, hl2⟩ := st
  have lt : ∀ {c o}, s.heap.get? c = some o → s.heap.objs.size ≠ c := fun e => Nat.ne_of_gt (Heap.lt_size e)
  rcases hz with hz | ⟨T, b', oT, hTn, hT, hz⟩
  · refine wpAny_pyNext_zip_item D hz hTI hTO h1 h2 hl1 hl2 hx hy fun h' a1 a2 a3 a4 a5 a6 hk => hQ h' ⟨.inr ⟨s.heap.objs.size, false, _, ⟨lt hz, lt hTO, ?_, ?_, Nat.ne_of_gt hd⟩, a5, a1⟩, hk _ _ D.TIz D.TITO D.TIi1 D.TIi2 hTI, ⟨_, _, a2⟩, a3, a4, hl1.at fun o e => hk _ o D.l1z D.l1TO D.l1i1 D.l1i2 e, hl2.at fun o e => hk _ o D.l2z D.l2TO D.l2i1 D.l2i2 e⟩ a5 hk
    · obtain ⟨_, e, _⟩ := h1; exact lt e
    · obtain ⟨_, e, _⟩ := h2; exact lt e
  · refine zip2_item D hz hT hTI h1 h2 hl1 hl2 hx hy fun h' a1 a3 a4 a5 hk => hQ h' ⟨.inr ⟨T, true, oT, hTn, hk T oT hTn.1 hTn.2.2.1 hTn.2.2.2.1 hT, a1⟩, hk _ _ D.TIz D.TIi1 D.TIi2 hTI, ⟨a, b, hk _ _ D.TOz D.TOi1 D.TOi2 hTO⟩, a3, a4, hl1.at fun o e => hk _ o D.l1z D.l1i1 D.l1i2 e, hl2.at fun o e => hk _ o D.l2z D.l2i1 D.l2i2 e⟩ a5 fun c o c1 _ c3 c4 e => hk c o c1 c3 c4 e
theorem zst_end {Q : Option Value → Shared → Prop} (hh : A.handled = none) (D : ZipApart z TI TO i1 i2 l1 l2) (st : ZSt z TI TO i1 i2 l1 l2 d xs ys j s.heap) (hend : xs[j]? = none ∨ ys[j]? = none)
    (hQ : ∀ h', (∀ c o, c ≠ z → c ≠ TO → c ≠ i1 → c ≠ i2 → s.heap.get? c = some o → h'.get? c = some o) → Q none { s with heap := h' }) : wpAny (model prog w) A (pyNext (.ref z)) Q E s := by
  obtain ⟨hz, hTI, ⟨a, b, hTO⟩, h1, h2, hl1, hl2⟩ := st
  rcases hz with hz | ⟨T, b', oT, hTn, hT, hz⟩
  · exact wpAny_pyNext_zip_end hh D hz hTI hTO h1 h2 hl1 hl2 hend hQ
  · exact zip2_end hh D hz hT hTI h1 h2 hl1 hl2 hend fun h' hk => hQ h' fun c o c1 _ c3 c4 e => hk c o c1 c3 c4 e

theorem stored_new {kvs : List (Int × Value)} {k : Int} {v : Value} (h : ∀ p ∈ kvs, p.1 ≠ k) : stored kvs k v = kvs ++ [(k, v)] := by
  unfold stored
  rw [if_neg]
  intro hc
  obtain ⟨p, hp, e⟩ := List.any_eq_true.mp hc
  exact h p hp (of_decide_eq_true e)

/-- dict from a zip, the loop -/
theorem dz_loop (hh : A.in1.handled = none) (D : ZipApart z TI TO i1 i2 l1 l2) (hdn : d ≠ z ∧ d ≠ TO ∧ d ≠ i1 ∧ d ≠ i2 ∧ d ≠ l1 ∧ d ≠ l2 ∧ d ≠ TI) {ks : List (Int × Tok)} {vy : List Value} (hx : xs = (ks.map fun q => Value.int q.1 q.2).toArray) (hy : ys = vy.toArray) (hnd : (ks.map (·.1)).Nodup) (hsz : ks.length ≤ sizeLine)
    {R : Result → Shared → Prop} : ∀ (k j : Nat) (s : Shared) (i : Int), min ks.length vy.length - j = k → j ≤ min ks.length vy.length → ZSt z TI TO i1 i2 l1 l2 d xs ys j s.heap → s.heap.DictOf (intKind prog w) d (((ks.map (·.1)).zip vy).take j) →
    (∀ s' : Shared, (∃ h' tk, s' = { s with heap := h', toks := tk } ∧ h'.DictOf (intKind prog w) d ((ks.map (·.1)).zip vy) ∧ (∀ c o, c ≠ z → c ≠ TO → c ≠ i1 → c ≠ i2 → c ≠ d → s.heap.get? c = some o → h'.get? c = some o)) → R (.ok (.ret .none)) s') →
    codeAny (model prog w) A (.builtin "dict.update.loop" ⟨[.ref d, .ref z, rawInt i, .none], []⟩) R s := by
  have hzl : ((ks.map (·.1)).zip vy).length = min ks.length vy.length := by simp
  intro k
  induction k with
  | zero =>
    intro j s i hk hj st hdict hR
    have hin : j = min ks.length vy.length := ar_z hk hj
    refine codeAny_builtin entry_update_loop ?_
    rw [Around.under_plainId plain_update_loop _]
    show wpAny _ A.in1 (pyNext (.ref z) >>= _) _ _ s
    refine wpAny_bind (zst_end hh D st ?_ fun h' hk => ?_)
    · subst hx; subst hy
      rcases Nat.le_total ks.length vy.length with h | h
      · left; simp; rw [hin, Nat.min_eq_left h]; exact Nat.le_refl _
      · right; simp; rw [hin, Nat.min_eq_right h]; exact Nat.le_refl _
    · show wpAny _ A.in1 (Builtin.Dict.addKeywords d [] >>= _) _ _ _
      refine wpAny_bind (wpAny_pure (wpAny_pure (hR _ ⟨h', s.toks, rfl, ?_, fun c o c1 c2 c3 c4 _ e => hk c o c1 c2 c3 c4 e⟩)))
      have hd' := hdict
      rw [hin, ← hzl, List.take_length] at hd'
      obtain ⟨o, es, ep, ho, r⟩ := hd'
      exact ⟨o, es, ep, hk d o hdn.1 hdn.2.1 hdn.2.2.1 hdn.2.2.2.1 ho, r⟩
  | succ k ih =>
    intro j s i hk hj st hdict hR
    have hlt : j < min ks.length vy.length := ar_s hk
    have hjk : j < ks.length := Nat.lt_of_lt_of_le hlt (Nat.min_le_left _ _)
    have hjv : j < vy.length := Nat.lt_of_lt_of_le hlt (Nat.min_le_right _ _)
    refine codeAny_builtin entry_update_loop ?_
    rw [Around.under_plainId plain_update_loop _]
    show wpAny _ A.in1 (pyNext (.ref z) >>= _) _ _ s
    have hdl : d < s.heap.objs.size := by obtain ⟨o, es, ep, ho, r⟩ := hdict; exact Heap.lt_size ho
    refine wpAny_bind (zst_item D hdl st (x := .int ks[j].1 ks[j].2) (y := vy[j]) (by subst hx; simp [hjk]) (by subst hy; simp [hjv]) fun h' st' hp hk' => ?_)
    refine wpAny_bind (wpAny_holding ?_)
    have hTup : (⟨h', s.gens, s.drawn, s.toks, s.os⟩ : Shared).TypeIs (.ref s.heap.objs.size) "tuple" := ⟨_, hp, rfl⟩
    refine wpAny_bind (wpAny_tryCatch ?_)
    unfold Builtin.Dict.pairItems
    refine wpAny_bind (wpAny_typeOf hTup ?_)
    rw [if_pos (by decide)]
    refine wpAny_bind (wpAny_seqItems hp rfl ?_)
    refine wpAny_pure ?_
    show wpAny _ A.in1 (holding [Value.int ks[j].1 ks[j].2, vy[j]] (dictSet d (.int ks[j].1 ks[j].2) vy[j])) _ _ _
    refine wpAny_holding ?_
    have hdict' : h'.DictOf (intKind prog w) d (((ks.map (·.1)).zip vy).take j) := by
      obtain ⟨o, es, ep, ho, r⟩ := hdict
      exact ⟨o, es, ep, hk' d o hdn.1 hdn.2.1 hdn.2.2.1 hdn.2.2.2.1 ho, r⟩
    have hnew : ∀ p ∈ ((ks.map (·.1)).zip vy).take j, p.1 ≠ ks[j].1 := fun p hp' e => by
      obtain ⟨n, hn, e2⟩ := List.mem_iff_getElem.mp hp'
      have hnj : n < j := Nat.lt_of_lt_of_le hn (List.length_take_le _ _)
      have e3 : p.1 = ks[n].1 := by rw [← e2]; simp
      have hinj := (List.nodup_iff_pairwise_ne.mp hnd)
      have := List.pairwise_iff_getElem.mp hinj n j (by rw [List.length_map]; exact Nat.lt_trans hnj hjk) (by rw [List.length_map]; exact hjk) hnj
      apply this
      simp
      rw [← e3, e]
    refine wpAny_dictSet_pairs (s := ⟨h', s.gens, s.drawn, s.toks, s.os⟩) (k := ks[j].1) (intKind_is prog w ks[j].1 ks[j].2) hdict' (fun h'' hd'' hs'' => ?_) (by simp; lia)
    have hs'' : Heap.SameBut d h' h'' := hs''
    rw [stored_new hnew] at hd''
    have etake : ((ks.map (·.1)).zip vy).take j ++ [(ks[j].1, vy[j])] = ((ks.map (·.1)).zip vy).take (j + 1) := by
      rw [List.take_add_one, List.getElem?_eq_getElem (by rw [hzl]; exact hlt)]
      simp
    rw [etake] at hd''
    refine wpAny_pure ⟨plainId_quiet plain_update_loop _, ih (j + 1) _ (i + 1) (ar_n hk) hlt ?_ hd'' fun s' ⟨h3, tk, e, hd3, hk3⟩ => ?_⟩
    · obtain ⟨hz, hTI, ⟨a, b, hTO⟩, h1, h2, hl1, hl2⟩ := st'
      refine ⟨?_, hs''.extBut _ _ hdn.2.2.2.2.2.2.symm hTI, ⟨a, b, hs''.extBut _ _ hdn.2.1.symm hTO⟩, h1.extBut hs''.extBut hdn.2.2.1.symm, h2.extBut hs''.extBut hdn.2.2.2.1.symm, hl1.extBut hs''.extBut hdn.2.2.2.2.1.symm, hl2.extBut hs''.extBut hdn.2.2.2.2.2.1.symm⟩
      rcases hz with hz | ⟨T, b', oT, hTn, hT, hz⟩
      · exact .inl (hs''.extBut _ _ hdn.1.symm hz)
      · exact .inr ⟨T, b', oT, hTn, hs''.extBut _ _ hTn.2.2.2.2 hT, hs''.extBut _ _ hdn.1.symm hz⟩
    · exact hR s' ⟨h3, tk, e, hd3, fun c o c1 c2 c3 c4 c5 ec => hk3 c o c1 c2 c3 c4 c5 (hs''.extBut c o c5 (hk' c o c1 c2 c3 c4 ec))⟩
end

section
variable {g : G} {n : Nat} {X₀ X : List Addr} {env : Env} {ρ : Rho} {e1 e2 : Expr} {pos p pz p2 : Pos} {f f2 : Str}

theorem ints_are {h : Heap} : ∀ {is : List Int} {vs : List Value}, RdAll X h vs (intD is) → ∃ ks : List (Int × Tok), vs = ks.map (fun q => Value.int q.1 q.2) ∧ ks.map (·.1) = is
  | [], _, r => by cases r; exact ⟨[], rfl, rfl⟩
  | i :: is, _, r => by
    cases r with
    | cons a b =>
      obtain ⟨t, rfl⟩ := a.int_inv
      obtain ⟨ks, rfl, e⟩ := ints_are b
      exact ⟨(i, t) :: ks, rfl, by simp [e]⟩
theorem ivals {h : Heap} : ∀ {ks is : List Int} {vs : List Value}, RdAll X h vs (intD is) → IVals (ks.zip vs) (ks.zip is)
  | [], is, vs, r => by simp; exact .nil
  | k :: ks, [], vs, r => by cases r; simp; exact .nil
  | k :: ks, i :: is, vs, r => by
    cases r with
    | cons a b =>
      obtain ⟨t, rfl⟩ := a.int_inv
      exact .cons (ivals b)

theorem Ev.dictzip {ks is : List Int} (hk : env.kindOf f = some .globalImplicit) (hg : g.W.mg f = Option.none) (hb : g.W.mb f = some (.type "dict")) (hk2 : env.kindOf f2 = some .globalImplicit) (hg2 : g.W.mg f2 = Option.none) (hb2 : g.W.mb f2 = some (.type "zip"))
    (ha : EvA g n X₀ X env ρ [e1, e2] [.list (intD ks), .list (intD is)]) (hnd : ks.Nodup) (hsz : ks.length ≤ sizeLine)
    (hd : (f == ("__debug__" : Str)) = false := by decide) (hd2 : (f2 == ("__debug__" : Str)) = false := by decide) : Ev g n X₀ X env ρ (.Call (.Name f p) [.Call (.Name f2 p2) [e1, e2] [] pz] [] pos) (dictD (ks.zip is)) := .mk fun A s hA hw hf => by
  refine wpAny_Call_NameR (blt_load hw hf hk hg hb (PySem.callWith_type rfl (args1 rfl ?_)) hd)
  refine wpAny_Call_NameR (blt_load hw hf hk2 hg2 hb2 (PySem.callWith_type ha.any (ha.args hA (.refl hw) hf fun vs s1 st _ hf1 r => ?_)) hd2)
  obtain ⟨v1, v2, rfl, r1, r2⟩ := r.two
  obtain ⟨l1, vx, k1, rfl, hl1X, ho1, ra1⟩ := r1.list_inv
  obtain ⟨l2, vy, k2, rfl, hl2X, ho2, ra2⟩ := r2.list_inv
  obtain ⟨kt, rfl, hkt⟩ := ints_are ra1
  have hlen : kt.length = ks.length := by rw [← hkt, List.length_map]
  have lt1 : l1 < s1.heap.objs.size := Heap.lt_size ho1
  have lt2 : l2 < s1.heap.objs.size := Heap.lt_size ho2
  show wpAny _ A (call (.type "zip") [.ref l1, .ref l2]) _ _ s1
  refine call_zip_2 (isList_of ho1) (isList_of ho2) fun h' hz hTI hTO hi1 hi2 hs' hk' => ?_
  generalize hN : s1.heap.objs.size = N at *
  have ne : ∀ {a b : Nat}, a ≠ b → a ≠ b := id
  have D : ZipApart (N + 4) (N + 2) (N + 3) N (N + 1) l1 l2 := by
    have q1 : @LT.lt Nat _ l1 N := lt1
    have q2 : @LT.lt Nat _ l2 N := lt2
    constructor <;> (show @Ne Nat _ _; lia)
  show wpAny _ A (call (.type "dict") [.ref (N + 4)]) _ _ { s1 with heap := h' }
  refine callType_codes (Q₁ := fun obj s₁ => obj = .ref h'.objs.size ∧ s₁ = { s1 with heap := h'.push { cls := .type "dict", data := .dict #[] } }) F.kt_called_dict (F.kt_typeCall_dict_1 _) F.entry_dict_init (kt_code_dict_new _ ⟨rfl, rfl⟩) ?_
  rintro obj s₁ ⟨rfl, rfl⟩
  have hnew : (h'.push { cls := .type "dict", data := .dict #[] }).DictOf (intKind g.prog g.w) h'.objs.size [] := Heap.DictOf.new h'
  refine ⟨hnew.typeIs (s := { s1 with heap := h'.push { cls := .type "dict", data := .dict #[] } }), F.args_dict_init_2 _ _, ?_⟩
  have hz1 : (h'.push { cls := .type "dict", data := .dict #[] }).get? (N + 4) = some { cls := .type "zip", dict := none, data := .fields #[.none, .bool false, .bool false, .ref (N + 2), .ref (N + 3)], slots := #[] } := Heap.get?_push_of_some _ hz
  generalize hH : h'.push { cls := .type "dict", data := .dict #[] } = H at *
  have upH : ∀ b o, h'.get? b = some o → H.get? b = some o := fun b o e => hH ▸ Heap.get?_push_of_some _ e
  rw [hs'] at hnew ⊢
  unfold Builtin.«dict.__init__»
  refine wpAny_bind ?_
  unfold Builtin.Dict.selfAndRest
  refine wpAny_bind (wpAny_notOrdered_dict (hnew.typeIs (s := { s1 with heap := H })) ?_)
  show wpAny _ _ (pure (N + 5, [Value.ref (N + 4)])) _ _ _
  refine wpAny_pure ?_
  show wpAny _ _ (Builtin.Dict.updateFrom "dict.__init__" (N + 5) (.ref (N + 4)) [] .none) _ _ _
  unfold Builtin.Dict.updateFrom
  refine wpAny_bind (wpAny_typeOf (T := "zip") ⟨_, hz1, rfl⟩ ?_)
  rw [if_pos (by decide)]
  refine wpAny_bind (no_keys hA.hd hz1 fun h2 tk2 hk2' => ?_)
  simp only [Option.isNone_none, if_true]
  have hk2' : ∀ b o, H.get? b = some o → h2.get? b = some o := hk2'
  refine wpAny_bind (wpAny_rule ?_)
  refine wpAny_bind (wpAny_pyIter_zip (hk2' _ _ hz1) ?_)
  have up : ∀ b o, s1.heap.get? b = some o → h2.get? b = some o := fun b o e => hk2' b o (upH b o (hk' b o e))
  have zst : ZSt (N + 4) (N + 2) (N + 3) N (N + 1) l1 l2 (N + 5) (kt.map fun q => Value.int q.1 q.2).toArray vy.toArray 0 h2 :=
    ⟨.inl (hk2' _ _ hz1), hk2' _ _ (upH _ _ hTI), ⟨_, _, hk2' _ _ (upH _ _ hTO)⟩, hi1.at fun o e => hk2' _ _ (upH _ _ e), hi2.at fun o e => hk2' _ _ (upH _ _ e), (isList_of ho1).at fun o e => up _ _ e, (isList_of ho2).at fun o e => up _ _ e⟩
  refine wpAny_pure ⟨plainId_quiet plain_update_loop _, dz_loop (prog := g.prog) (w := g.w) (A := A.in1) hA.hd D ?_ rfl rfl (by rw [hkt]; exact hnd) (by rw [hlen]; exact hsz) (min kt.length vy.length) 0 { s1 with heap := h2, toks := tk2 } 0 (Nat.sub_zero _) (Nat.zero_le _) zst ?_ ?_⟩
  · have q1 : @LT.lt Nat _ l1 N := lt1
    have q2 : @LT.lt Nat _ l2 N := lt2
    refine ⟨?_, ?_, ?_, ?_, ?_, ?_, ?_⟩ <;> (show @Ne Nat _ _; lia)
  · rw [List.take_zero]; exact hnew.keep hk2'
  · rintro s' ⟨h3, tk, rfl, hd3, hk3⟩
    have up3 : ∀ b o, s1.heap.get? b = some o → h3.get? b = some o := fun b o e => by
      have q : @LT.lt Nat _ b N := hN ▸ Heap.lt_size e
      refine hk3 b o ?_ ?_ ?_ ?_ ?_ (up b o e) <;> (show @Ne Nat _ _; lia)
    refine ⟨rfl, st.grown g.ok up3, ?_⟩
    obtain ⟨o3, ho3, hd3⟩ := Heap.dictOf_iff.mp hd3
    rw [hkt] at hd3
    have hmod : ((N + 5 : Nat) == sysModules) = false := by
      have : N + 5 ≠ 1 := by lia
      exact beq_eq_false_iff_ne.mpr this
    exact .dict hmod (hf1.xok.fresh (by rw [hN]; exact Nat.le_add_right N 5)) ho3 ⟨_, _, _, hd3, ivals ra2⟩
end
end Mine
set_option Elab.async false
set_option maxRecDepth 100000
set_option linter.unusedVariables false
set_option tactic.hygienic false
namespace Mine
open PySem PyProof.Rows

section
variable {g : G} {n : Nat} {X₀ X : List Addr} {env : Env} {ρ : Rho} {e value lower : Expr} {d : PyData} {ds : List PyData} {pos p p2 q : Pos} {f f2 : Str} {x : Str} {i j : Int} {is : List Int}

theorem ty_ne (d : PyData) : (Value.type (tyOf d) == Value.type "builtin_function_or_method") = false := by
  have h : ∀ T : String, (T == "builtin_function_or_method") = false → (Value.type T == Value.type "builtin_function_or_method") = false := fun T hT => by
    have := beq_eq_false_iff_ne.mp hT
    exact beq_eq_false_iff_ne.mpr fun q => this (Value.type.inj q)
  cases d with
  | none => exact h "NoneType" (by decide)
  | bool => exact h "bool" (by decide)
  | int => exact h "int" (by decide)
  | str => exact h "str" (by decide)
  | list => exact h "list" (by decide)
  | tuple => exact h "tuple" (by decide)
  | dict => exact h "dict" (by decide)
theorem pairs_any {p p' : Program} {w w' : World} {es : List DictEntry} {kvs : List (Int × Value)} (h : Pairs (intKind p w) es kvs) : Pairs (intKind p' w') es kvs := by
  induction h with
  | nil => exact .nil
  | cons h1 h2 _ ih => exact .cons h1 h2 ih
/-- type(e) is T -/
theorem typeTest {op : CmpOp} {T : String} {b : Bool} (hk : env.kindOf f = some .globalImplicit) (hg : g.W.mg f = Option.none) (hb : g.W.mb f = some (.type "type")) (hk2 : env.kindOf f2 = some .globalImplicit) (hg2 : g.W.mg f2 = Option.none) (hb2 : g.W.mb f2 = some (.type T))
    (he : EvA g n X₀ X env ρ [e] [d]) (hop : ∀ (A : Around) (s : Shared) (Q : Value → Shared → Prop), Q (.bool b) s → wpAny (model g.prog g.w) A (compareOp op (.type (tyOf d)) (.type T)) Q NoE s)
    (hd : (f == ("__debug__" : Str)) = false := by decide) (hd2 : (f2 == ("__debug__" : Str)) = false := by decide) (hm : behindInMarks op (.Name f2 p2) = false := by with_unfolding_all rfl) :
    Tr g n X₀ X env ρ (.Compare (.Call (.Name f p) [e] [] q) [op] [.Name f2 p2] pos) b := .mk fun A s hA hw hf => by
  refine wpAny_isTrue_Compare1 (wpAny_Call_NameR (blt_load hw hf hk hg hb (PySem.callWith_type he.any (he.args hA (.refl hw) hf fun vs s1 st _ hf1 r => ?_)) hd)) hm
  obtain ⟨v, rfl, r1⟩ := r.one
  refine call_type_of r1.type.1 (ty_ne d) ?_
  exact blt_load st.wd hf1 hk2 hg2 hb2 (hop A s1 _ (wpAny_truthy_bool ⟨st, rfl⟩)) hd2
theorem isNotT {T U : String} {A : Around} {s : Shared} {Q : Value → Shared → Prop} (h : Q (.bool (!(Value.type U == Value.type T))) s) : wpAny (model g.prog g.w) A (compareOp .IsNot (.type U) (.type T)) Q NoE s := wpAny_isNot_plain rfl h
theorem isT {T U : String} {A : Around} {s : Shared} {Q : Value → Shared → Prop} (h : Q (.bool (Value.type U == Value.type T)) s) : wpAny (model g.prog g.w) A (compareOp .Is (.type U) (.type T)) Q NoE s := wpAny_is_plain rfl h

theorem Ev.neg (h : Ev g n X₀ X env ρ e (.int i)) : Ev g n X₀ X env ρ (.UnaryOp .USub e pos) (.int (-i)) := .mk fun A s hA hw hf =>
  wpAny_UnaryOp (h.use hA (.refl hw) hf fun v s1 st _ hf1 r => by
    obtain ⟨t, rfl⟩ := r.int_inv
    exact P.neg_int ⟨st.toks, .int ..⟩)

theorem Ev.sliceFrom (hv : Ev g n X₀ X env ρ value (.str x)) (hl : Ev g n X₀ X env ρ lower (.int i)) (hz : x.length ≤ sizeLine) (ht : ∀ o r, letTemporaryGo value o r = pure () := by intro _ _; rfl) :
    Ev g n X₀ X env ρ (.Subscript value (.Slice (some lower) none none p) pos) (.str (Txt.slice x (some i) none)) := .mk fun A s hA hw hf => by
  refine wpAny_Subscript_str_slice (hv.use hA (.refl hw) hf fun v s1 _ st hf1 r1 => ?_) ht
  refine evalPart_some_step (hl.use hA st hf1 fun u s2 st2 st21 hf2 r2 => evalPart_none_step ?_)
  obtain ⟨t, rfl⟩ := r1.str_inv
  obtain ⟨t', rfl⟩ := r2.int_inv
  refine ⟨x, t, some (i, t'), none, rfl, rfl, rfl, post_val_or_str ⟨Nat.le_trans (Txt.slice_le x _ _) hz, fun t' k => ⟨(st2.push g.ok _).toks, .str ..⟩⟩⟩

/-- the greatest -/
noncomputable def maxI : List Int → Int
  | [] => 0
  | [x] => x
  | x :: y :: r => max x (maxI (y :: r))
theorem argBest_max (xs : Array (Int × Tok)) : ∀ k, k < xs.size → (∀ m, m ≤ k → numAt xs m ≤ numAt xs (argBest (fun i j => decide (numAt xs i > numAt xs j)) k)) ∧ argBest (fun i j => decide (numAt xs i > numAt xs j)) k ≤ k
  | 0, h => ⟨fun m hm => by rw [Nat.le_zero.mp hm]; exact Int.le_refl _, Nat.le_refl _⟩
  | k + 1, h => by
    obtain ⟨h1, h2⟩ := argBest_max xs k (by lia)
    unfold argBest
    by_cases hc : numAt xs (k + 1) > numAt xs (argBest (fun i j => decide (numAt xs i > numAt xs j)) k)
    · rw [if_pos (by simpa using hc)]
      refine ⟨fun m hm => ?_, Nat.le_refl _⟩
      rcases Nat.lt_or_ge m (k + 1) with hlt | hge
      · have := h1 m (by lia); lia
      · rw [show m = k + 1 by lia]; exact Int.le_refl _
    · rw [if_neg (by simpa using hc)]
      refine ⟨fun m hm => ?_, by lia⟩
      rcases Nat.lt_or_ge m (k + 1) with hlt | hge
      · exact h1 m (by lia)
      · rw [show m = k + 1 by lia]; lia
/-- m is the greatest of is -/
noncomputable def IsMax (is : List Int) (m : Int) : Prop := m ∈ is ∧ ∀ i ∈ is, i ≤ m
theorem c_max {m : Int} (hm : IsMax is m) : Calls g n (.builtin "max") [.list (intD is)] (.int m) := fun X A s vs hA hw hx r => by
  obtain ⟨v, rfl, r1⟩ := r.one
  obtain ⟨a, ws, k, rfl, _, ho, ra⟩ := r1.list_inv
  obtain ⟨ks, rfl, hks⟩ := ints_are ra
  have hne : 0 < ks.toArray.size := by
    have := List.length_pos_of_mem hm.1
    rw [← hks] at this
    simpa using this
  have hl : s.heap.IsList a (intItems ks.toArray) := by
    have := isList_of ho
    simpa [intItems] using this
  refine max_intList hA.hd hl hne fun v h' tk hv hk => ⟨(Step.refl hw).grown g.ok hk, ?_⟩
  obtain ⟨t, rfl⟩ := intItems_at hv
  have hbest := argBest_max ks.toArray (ks.toArray.size - 1) (by lia)
  generalize argBest (fun i j => decide (numAt ks.toArray i > numAt ks.toArray j)) (ks.toArray.size - 1) = b at *
  have hb : b < ks.length := by have := hbest.2; simp at this hne; lia
  have num : ∀ c (hc : c < ks.length), numAt ks.toArray c = is[c]'(by rw [← hks, List.length_map]; exact hc) := fun c hc => by
    subst hks
    simp [numAt, hc]
  have e : numAt ks.toArray b = m := by
    have h1 : numAt ks.toArray b ≤ m := by rw [num b hb]; exact hm.2 _ (List.getElem_mem _)
    obtain ⟨c, hc, e⟩ := List.mem_iff_getElem.mp hm.1
    have hc' : c < ks.length := by rw [← hks, List.length_map] at hc; exact hc
    have h2 := hbest.1 c (by simp; lia)
    rw [num c hc', e] at h2
    lia
  rw [e]; exact .int ..

theorem cl_list (hz : ds.length ≤ sizeLine) : CallsL g n (.type "list") [.list ds] ds := fun X A s vs hA hw hx r => by
  obtain ⟨v, rfl, r1⟩ := r.one
  obtain ⟨a, ws, k, rfl, _, ho, ra⟩ := r1.list_inv
  refine call_list_seq a (.inl rfl) ho rfl rfl (fun h' c' hk hn => ⟨(Step.refl hw).grown g.ok hk, s.heap.objs.size, ws, c', rfl, Nat.le_refl _, hn, ?_⟩) (by simpa [ra.length] using hz)
  exact rdAll_fresh (Nat.le_refl _) hk ra
theorem EvL.callT {T : String} {es : List Expr} {ds' : List PyData} (hk : env.kindOf f = some .globalImplicit) (hg : g.W.mg f = Option.none) (hb : g.W.mb f = some (.type T)) (ha : EvA g n X₀ X env ρ es ds) (hc : CallsL g n (.type T) ds ds')
    (hd : (f == ("__debug__" : Str)) = false := by decide) : EvL g n X₀ X env ρ (.Call (.Name f p) es [] pos) ds' := .mk fun A s hA hw hf => by
  refine wpAny_Call_NameR (blt_load hw hf hk hg hb (PySem.callWith_type ha.any (ha.args hA (.refl hw) hf fun vs s' st _ hf' r => ?_)) hd)
  refine wpAny_mono (hc X A s' vs hA st.wd hf'.xok r) (fun v s2 ⟨a, b, ws, k, e1, e2, e3, e4⟩ => ⟨st.trans a, b, ws, k, e1, Nat.le_trans (st.wd.sz g.ok) e2, st.free g.ok (Nat.le_trans (st.wd.sz g.ok) e2) (none_of_le e2), e3, e4⟩) fun _ _ x => x

theorem c_index {k : Nat} (hk : is[k]? = some i) (hno : ∀ m, m < k → is[m]? ≠ some i) (hz : is.length ≤ sizeLine) : Calls g n (.builtin "list.index") [.list (intD is), .int i] (.int (k : Int)) := fun X A s vs hA hw hx r => by
  obtain ⟨v, u, rfl, r1, r2⟩ := r.two
  obtain ⟨a, ws, m, rfl, _, ho, ra⟩ := r1.list_inv
  obtain ⟨t, rfl⟩ := r2.int_inv
  obtain ⟨ks, rfl, hks⟩ := ints_are ra
  have hkl : k < is.length := (List.getElem?_eq_some_iff.mp hk).1
  have hkk : k < ks.length := by rw [← hks, List.length_map] at hkl; exact hkl
  have num : ∀ c (hc : c < ks.length), ks[c].1 = is[c]'(by rw [← hks, List.length_map]; exact hc) := fun c hc => by subst hks; simp
  have hz' : is.length ≤ 16777216 := hz
  refine call_meets F.slot_list_index ⟨_, ho, rfl⟩ F.entry_list_index (F.args_list_index_2 _ _) (SeqAt.list_indexAt a (ks.map fun (q : Int × Tok) => Value.int q.1 q.2).toArray m none #[] (.int i t) (valInt i) k (by simpa using hkk) (by rw [big63]; lia) ?_ ?_) ⟨ho, fun y hy => ?_, ⟨(Step.refl hw).toks, .int ..⟩⟩
  · have := (List.getElem?_eq_some_iff.mp hk).2
    simp [valInt, num k hkk, this]
  · intro c hc hck
    have hcl : c < ks.length := by lia
    have h1 := hno c hck
    have hci : c < is.length := by lia
    rw [List.getElem?_eq_getElem hci] at h1
    have : is[c] ≠ i := fun q => h1 (by rw [q])
    simp [valInt, num c hcl, this]
  · have hy' : y ∈ ks.map fun q => Value.int q.1 q.2 := by simpa using hy
    obtain ⟨q, _, rfl⟩ := List.mem_map.mp hy'
    have := SeqAt.EqAt.int_int (A := A.in1) (s := s) q.1 q.2 i t
    simpa [valInt, eq_comm] using this

theorem c_get {kvs : List (Int × Int)} : Calls g n (.builtin "dict.get") [dictD kvs, .int i] (match kvs.lookup i with | some v => .int v | none => .none) := fun X A s vs hA hw hx r => by
  obtain ⟨v, u, rfl, r1, r2⟩ := r.two
  obtain ⟨a, o, rfl, hm, _, ho, p', w', vs, hd, hv⟩ := r1.dict_inv
  obtain ⟨t, rfl⟩ := r2.int_inv
  have hd' : PySem.Obj.IsDictOf (intKind g.prog g.w) o vs := let ⟨es, ep, h1, h2, h3, h4, h5⟩ := hd; ⟨es, ep, h1, h2, h3, pairs_any h4, h5⟩
  have hD : s.heap.DictOf (intKind g.prog g.w) a vs := Heap.dictOf_iff.mpr ⟨o, ho, hd'⟩
  refine call_meetsIn F.slot_dict_get hD.typeIs F.entry_dict_get (F.args_dict_get_2 _ _) (meets_dict_get (intKind g.prog g.w) a (intKind_is _ _ i t) hm) ⟨_, hD.mapOf, ⟨(Step.refl hw).toks, ?_⟩⟩
  have : ∀ {vs : List (Int × Value)} {kvs : List (Int × Int)}, IVals vs kvs → Rd X s.heap ((valueAt vs i).getD .none) (match kvs.lookup i with | some v => .int v | none => .none) := by
    intro vs kvs hv
    induction hv with
    | nil => exact .none
    | @cons k j t vs kvs h ih =>
      by_cases hk : k = i
      · subst hk
        simp only [valueAt, List.find?_cons, List.lookup_cons, beq_self_eq_true, decide_true]
        exact .int ..
      · have h1 : (i == k) = false := by simpa using Ne.symm hk
        have e1 : valueAt ((k, Value.int j t) :: vs) i = valueAt vs i := by simp [valueAt, hk]
        rw [List.lookup_cons, h1, e1]
        exact ih
  exact this hv
end
end Mine
set_option Elab.async false
set_option maxRecDepth 100000
set_option linter.unusedVariables false
set_option tactic.hygienic false
namespace Mine
open PySem PyProof.Rows

noncomputable def top : List Stmt := PySem.Challenge.pw_sx_vasmalltoolchain_7.main.body
noncomputable def fnAt (k : Nat) : Stmt := (top[k]?).getD (.Pass ⟨0, 0, 0, 0⟩)
noncomputable def fName : Stmt → Str
  | .FunctionDef n _ _ _ _ _ _ _ _ _ => n
  | _ => ""
noncomputable def fArgs : Stmt → Arguments
  | .FunctionDef _ a _ _ _ _ _ _ _ _ => a
  | _ => ⟨[], [], none, [], [], none, []⟩
noncomputable def fBody : Stmt → List Stmt
  | .FunctionDef _ _ b _ _ _ _ _ _ _ => b
  | _ => []
noncomputable def fScope : Stmt → Scope
  | .FunctionDef _ _ _ _ _ _ s _ _ _ => s
  | _ => default
noncomputable def fdOf (k : Nat) (pm cd doc df : Value) : FuncData := { Calls.docDef (fName (fnAt k)) (fArgs (fnAt k)) (fBody (fnAt k)) (fScope (fnAt k)) pm cd doc with defaults := df }
noncomputable abbrev envAt (k : Nat) (pm cd doc df : Value) (L a : Addr) : Env := callEnvC (fdOf k pm cd doc df) L a

/-- the k-th statement's function stands in the top -/
structure FnK (g : G) (k : Nat) (df : Value) (cd : Value) : Prop where
  at_ : ∃ a ob pm doc, g.W.mg (fName (fnAt k)) = some (.ref a) ∧ (a, ob) ∈ g.W.K ∧ ob.data = .func (fdOf k pm cd doc df)
  code : ∃ c oc vs t, cd = .ref c ∧ (c, oc) ∈ g.W.K ∧ oc.data = .fields vs ∧ vs[1]? = some (.str (fName (fnAt k)) t)

noncomputable def FnC (g : G) (n : Nat) (f : Str) (ds : List PyData) (d : PyData) : Prop := ∃ b ob fd, g.W.mg f = some (.ref b) ∧ (b, ob) ∈ g.W.K ∧ ob.data = .func fd ∧ Calls g n (.ref b) ds d

section
variable {g : G} {n : Nat} {X₀ X : List Addr} {env : Env} {ρ : Rho} {es : List Expr} {d : PyData} {ds : List PyData} {pos p : Pos} {f : Str}
theorem Ev.call (h : FnC g n f ds d) (hk : env.kindOf f = some .globalImplicit) (ha : EvA g n X₀ X env ρ es ds) (hd : (f == ("__debug__" : Str)) = false := by decide) : Ev g n X₀ X env ρ (.Call (.Name f p) es [] pos) d :=
  let ⟨_, _, _, h1, h2, h3, h4⟩ := h
  Ev.callF hk h1 h2 h3 ha h4 hd
theorem Calls.le {m : Nat} {v : Value} (h : Calls g n v ds d) (hm : n ≤ m) : Calls g m v ds d := fun X A s vs hA => h X A s vs (hA.le hm)
theorem FnC.le {m : Nat} (h : FnC g n f ds d) (hm : n ≤ m) : FnC g m f ds d := let ⟨b, o, fd, h1, h2, h3, h4⟩ := h; ⟨b, o, fd, h1, h2, h3, h4.le hm⟩

theorem mkFn {k : Nat} {df cd : Value} {ps : List Str} {dvs : List Value} {dds : List PyData} (hK : FnK g k df cd) (hf : fName (fnAt k) = f)
    (hbind : ∀ pm doc s vs, Wd g.W s.heap → vs.length = ds.length → BindsTo s (fdOf k pm cd doc df) ⟨vs, []⟩ (ps.zip (vs ++ dvs))) (hdv : Kds g dvs dds) (hnd : ps.Nodup)
    (hkind : ∀ L : Addr, ∀ p ∈ ps, (fScope (fnAt k)).names.lookup p = some .local ∨ ((fScope (fnAt k)).names.lookup p = some .cell ∧ ((cellsFrom (L + 1) (fScope (fnAt k)).names []).lookup p).isSome = true))
    (hx : ∀ pm doc L a X₀, Ex g n X₀ (envAt k pm cd doc df L a) (fzs ps (ds ++ dds)) (fBody (fnAt k)) (fun f _ => f = .ret d))
    (hco : (fScope (fnAt k)).isCoroutine = false := by rfl) (hgen : (fScope (fnAt k)).isGenerator = false := by rfl) (hk : (fScope (fnAt k)).kind = .function := by rfl) : FnC g (n + 1) f ds d := by
  obtain ⟨⟨a, ob, pm, doc, h1, h2, h3⟩, c, oc, vs, t, h4, h5, h6, h7⟩ := hK
  exact ⟨a, ob, _, hf ▸ h1, h2, h3, Calls.fn h2 h3 rfl ⟨c, oc, vs, t, h4, h5, h6, h7⟩ (hbind pm doc) hdv hnd hkind (hx pm doc · a) rfl rfl rfl hco hgen hk⟩
end
end Mine
set_option Elab.async false
set_option maxRecDepth 100000
set_option linter.unusedVariables false
set_option tactic.hygienic false
namespace Mine
open PySem PyProof.Rows

theorem len1 {α : Type} {vs : List α} (h : vs.length = 1) : ∃ a, vs = [a] := by
  match vs, h with
  | [a], _ => exact ⟨a, rfl⟩
theorem len2 {α : Type} {vs : List α} (h : vs.length = 2) : ∃ a b, vs = [a, b] := by
  match vs, h with
  | [a, b], _ => exact ⟨a, b, rfl⟩
theorem len3 {α : Type} {vs : List α} (h : vs.length = 3) : ∃ a b c, vs = [a, b, c] := by
  match vs, h with
  | [a, b, c], _ => exact ⟨a, b, c, rfl⟩
theorem len4 {α : Type} {vs : List α} (h : vs.length = 4) : ∃ a b c d, vs = [a, b, c, d] := by
  match vs, h with
  | [a, b, c, d], _ => exact ⟨a, b, c, d, rfl⟩

theorem EvL.congr {g : G} {n : Nat} {X₀ X : List Addr} {env : Env} {ρ : Rho} {e : Expr} {ds ds' : List PyData} (h : EvL g n X₀ X env ρ e ds) (q : ds = ds') : EvL g n X₀ X env ρ e ds' := q ▸ h
theorem Ev.congr {g : G} {n : Nat} {X₀ X : List Addr} {env : Env} {ρ : Rho} {e : Expr} {d d' : PyData} (h : Ev g n X₀ X env ρ e d) (q : d = d') : Ev g n X₀ X env ρ e d' := q ▸ h
theorem Tr.congr {g : G} {n : Nat} {X₀ X : List Addr} {env : Env} {ρ : Rho} {e : Expr} {b b' : Bool} (h : Tr g n X₀ X env ρ e b) (q : b = b') : Tr g n X₀ X env ρ e b' := q ▸ h
theorem EvI.congr {g : G} {n : Nat} {t : Expr} {X₀ X : List Addr} {env : Env} {ρ : Rho} {e : Expr} {ds ds' : List PyData} (h : EvI g n t X₀ X env ρ e ds) (q : ds = ds') : EvI g n t X₀ X env ρ e ds' := q ▸ h
theorem map_tt {α β : Type} (xs : List α) (F : α → β) : (xs.filter fun _ => true).map F = xs.map F := by rw [List.filter_eq_self.mpr fun _ _ => rfl]
/-- no free names -/
theorem CompOk.map0 {g : G} {n : Nat} {env : Env} {ρ : Rho} {elt target : Expr} {ifs : List Expr} {scope : Scope} {α : Type} {xs : List α} {inj F : α → PyData} {q : α → Bool} (sz : xs.length ≤ sizeLine)
    (turn : ∀ a ∈ xs, ∃ ρ', (∀ C X₁, Asg g n X₁ (compEnvC scope [] C env) target (inj a) [] ρ') ∧ (∀ C X₁ X, Tests g n X₁ X (compEnvC scope [] C env) ρ' ifs (q a)) ∧ (q a = true → ∀ C X₁ X, Ev g n X₁ X (compEnvC scope [] C env) ρ' elt (F a)))
    (hfree : ∀ x ∈ scope.names, x.2 ≠ .free := by decide) (kind : scope.kind = .function := by rfl) (names : ∀ y ∈ scope.names, y.2 = .local → scope.names.lookup y.1 = some .local := by decide) (cell : ∀ y ∈ scope.names, y.2 ≠ .cell := by decide) :
    CompOk g n env ρ [] elt target ifs scope [] (xs.map inj) (fun i => ((xs.take i).filter q).map F) :=
  CompOk.map (closureNil hfree) (fun x c h => (nomatch h)) kind names cell FreeOk.nil sz fun a ha => let ⟨ρ', h1, h2, h3⟩ := turn a ha; ⟨ρ', Sub.nil, h1, h2, h3⟩

theorem szl {α : Type} {l : List α} (h : l.length ≤ 65536 := by simp) : l.length ≤ sizeLine := Nat.le_trans h (by decide)
theorem szn {k : Nat} (h : k ≤ 65536) : k ≤ sizeLine := Nat.le_trans h (by decide)
noncomputable def tokD (p : Str × Str) : PyData := .tuple [.str p.1, .str p.2]

section
variable {g : G} {n : Nat} {cd : Value}
theorem f_token_text (hK : FnK g 1 .none cd) {ts : List (Str × Str)} (hl : ts.length ≤ 65536) (hz : ((ts.map (·.2)).map (·.length)).sum + ts.length ≤ 1048576) : FnC g (n + 1) "token_text" [.list (ts.map tokD)] (.str (Txt.join " " (ts.map (·.2)))) := by
  refine mkFn (ps := ["tokens"]) (dvs := []) (dds := []) hK rfl (fun pm doc s vs _ h => ?_) Kds.nil (by decide) (fun L p hp => .inl (by rw [List.mem_singleton.mp hp]; rfl)) fun pm doc L a X₀ => ?_
  · obtain ⟨v, rfl⟩ := len1 h
    exact .of_eq rfl
  · simp only [envAt, callEnvC, fdOf, Calls.docDef, newEnv]
    conv in (fBody (fnAt 1)) => whnf
    conv in (fScope (fnAt 1)) => whnf
    refine Ex.cons ?_
    refine Ex1.ret (d := .str (Txt.join " " (ts.map (·.2)))) ?_ ?_
    rotate_left
    · rfl
    intro X
    refine Ev.meth (a := .str " ") (ds := [.list (strD (ts.map (·.2)))]) ?_ F.plainAttrs_str F.slot_str_join F.type_str_join ?_ ?_
    · exact Ev.str
    · refine EvA.cons ?_ ?_
      · refine EvL.ev ?_
        refine EvL.congr ?_ (map_tt ts (fun p => PyData.str p.2) |>.trans (by simp [strD]))
        refine EvL.compMap (xs := ts) (inj := tokD) (F := fun p => .str p.2) (q := fun _ => true) (ρc := []) (cl := []) ?_ ?_
        · refine EvI.list ?_
          refine Ev.name ?_
          rfl
        · refine CompOk.map0 ?_ ?_
          · exact Nat.le_trans hl (by decide)
          · intro p hp
            refine ⟨[("t", .fz (tokD p))], ?_, ?_, ?_⟩
            · exact fun C X₁ => Asg.name (.inl rfl)
            · exact fun C X₁ X => rfl
            · intro _ C X₁ X
              refine Ev.idxT (ds := [.str p.1, .str p.2]) ?_ Ev.int (by decide) (by decide) (k := 1) ?_ ?_
              · exact Ev.name rfl
              · rfl
              · rfl
      · exact EvA.nil
    · refine c_join (xs := ts.map (·.2)) ?_
      have : (Str.ofString " ").length = 1 := rfl
      rw [this]
      simp only [List.length_map] at hz ⊢
      lia
end
end Mine
set_option Elab.async false
set_option maxRecDepth 100000
set_option linter.unusedVariables false
set_option tactic.hygienic false
namespace Mine
open PySem PyProof.Rows

/-- a name that the module does not hold, and the builtins do -/
noncomputable def Bn (g : G) (x : Str) (v : Value) : Prop := g.W.mg x = Option.none ∧ g.W.mb x = some v
structure Blt (g : G) : Prop where
  len : Bn g "len" (.builtin "len")
  str : Bn g "str" (.type "str")
  min : Bn g "min" (.builtin "min")
  max : Bn g "max" (.builtin "max")
  enumerate : Bn g "enumerate" (.type "enumerate")
  range : Bn g "range" (.type "range")
  reversed : Bn g "reversed" (.type "reversed")
  any : Bn g "any" (.builtin "any")
  dict : Bn g "dict" (.type "dict")
  zip : Bn g "zip" (.type "zip")
  list : Bn g "list" (.type "list")
  type : Bn g "type" (.type "type")
  int : Bn g "int" (.type "int")
  bool : Bn g "bool" (.type "bool")
  bf : BltOk g
/-- a datum of the top -/
noncomputable def Gd (g : G) (x : Str) (d : PyData) : Prop := ∃ v, g.W.mg x = some v ∧ Kd g v d
theorem Ev.gd {g : G} {n : Nat} {X₀ X : List Addr} {env : Env} {ρ : Rho} {d : PyData} {p : Pos} {f : Str} (h : Gd g f d) (hk : env.kindOf f = some .globalImplicit := by rfl) (hd : (f == ("__debug__" : Str)) = false := by decide) : Ev g n X₀ X env ρ (.Name f p) d :=
  let ⟨_, h1, h2⟩ := h
  Ev.glob hk h1 h2 hd

noncomputable def PIE : Int := 1000000000000000000
noncomputable def numText (i : Int) : Str := Str.ofString (toString i)

section
variable {g : G} {n : Nat} {cd : Value}

theorem f_number_text (hK : FnK g 5 .none cd) (hC : ∃ c P, cd = .ref c ∧ (c, P) ∈ g.W.C) (B : Blt g) (hP : Gd g "PIECE" (.int PIE)) (hD : Gd g "PIECE_DIGITS" (.int 18)) {i : Int} (hi : i.natAbs < PIE.natAbs * PIE.natAbs)
    (hpure : ∀ m : Int, PIE ≤ m → m < PIE * PIE → numText m = Txt.join "" [numText (m.fdiv PIE), Txt.rjustF (numText (m - m.fdiv PIE * PIE)) 18 48]) (hneg : ∀ m : Int, m < 0 → (("-" : Str) ++ numText (-m)) = numText m) (hpos : ∀ m : Int, (("" : Str) ++ numText m) = numText m) (hlen : ∀ m : Int, m.natAbs < PIE.natAbs * PIE.natAbs → (numText m).length ≤ 60) :
    FnC g (n + 7) "number_text" [.int i] (.str (numText i)) := by
  refine mkFn (ps := ["n"]) (dvs := []) (dds := []) hK rfl (fun pm doc s vs _ h => ?_) Kds.nil (by decide) (fun L p hp => .inl (by rw [List.mem_singleton.mp hp]; rfl)) fun pm doc L a X₀ => ?_
  · obtain ⟨v, rfl⟩ := len1 h
    exact .of_eq rfl
  · simp only [envAt, callEnvC, fdOf, Calls.docDef, newEnv]
    conv in (fBody (fnAt 5)) => whnf
    conv in (fScope (fnAt 5)) => whnf
    have big : PIE.natAbs * PIE.natAbs < 10 ^ 4300 := by decide +kernel
    have hst : ∀ m : Int, m.natAbs < PIE.natAbs * PIE.natAbs → Calls g (n + 6) (.type "str") [.int m] (.str (numText m)) := fun m hm => c_str_int (Nat.lt_trans hm big)
    refine Ex.cons (Ex1.assign (d := .str "") (.inl rfl) (fun X => Ev.str) ?_)
    refine Ex.cons (Ex1.assign (d := .int i) (.inl rfl) (fun X => Ev.name rfl) ?_)
    -- behind the sign
    suffices rest : ∀ (sg : Str) (m : Int), sg.length ≤ 1 → 0 ≤ m → m.natAbs < PIE.natAbs * PIE.natAbs → sg ++ numText m = numText i → Ex g (n + 6) X₀ _ [("sign", .fz (.str sg)), ("m", .fz (.int m))] _ _ by
      refine Ex.cons (Ex1.ite (fun X => Tr.cp (Ev.name rfl) Ev.int cmp_lt) (fun hc => ?_) (fun hc => ?_))
      · have hneg0 : i < 0 := of_decide_eq_true hc
        refine Ex.cons (Ex1.assign (d := .str "-") (.inl rfl) (fun X => Ev.str) ?_)
        refine Ex.cons (Ex1.assign (d := .int (-i)) (.inl rfl) (fun X => Ev.neg (Ev.name rfl)) ?_)
        refine Ex.nil ?_
        exact Ex.weak (rest "-" (-i) (by decide) (by omega) (by omega) (hneg i hneg0)) (.cons rfl (.cons rfl .nil))
      · have hpos0 : ¬ i < 0 := of_decide_eq_false hc
        refine Ex.nil ?_
        exact Ex.weak (rest "" i (by decide) (by omega) hi (hpos i)) (.cons rfl (.cons rfl .nil))
    intro sg m hsg hm0 hmb hres
    have hml := hlen m hmb
    refine Ex.cons (Ex1.ite (fun X => Tr.cp (Ev.name rfl) (Ev.gd hP) cmp_lt) (fun hc => ?_) (fun hc => ?_))
    · refine Ex.cons (Ex1.ret (d := .str (numText i)) (fun X => ?_) rfl)
      refine Ev.congr (Ev.op (Ev.name rfl) (Ev.callT rfl B.str.1 B.str.2 (.cons (Ev.name rfl) .nil) (hst m hmb)) (op_addS ?_)) (by rw [hres])
      exact Nat.le_trans (Nat.add_le_add hsg hml) (by decide)
    refine Ex.nil ?_
    have hge : PIE ≤ m := by have := of_decide_eq_false hc; omega
    have hpie : PIE = 1000000000000000000 := rfl
    have hlt2 : m < PIE * PIE := by rw [hpie] at hmb ⊢; simp at hmb; omega
    refine Ex.cons (Ex1.assignL (ds := [.int PIE]) (.inl rfl) (fun X => EvL.list (.cons (Ev.gd hP) .nil) (by decide)) ?_)
    refine Ex.cons ?_
    refine Ex1.while (R := fun _ => [("powers", .own [.int PIE]), ("sign", .fz (.str sg)), ("m", .fz (.int m))]) 0 (fun _ => false) (.cons rfl (.cons rfl (.cons rfl .nil))) rfl (fun j X₁ X hj => ?_) (fun j X₁ hj => (nomatch hj)) (fun j hj _ => ?_)
    · refine Tr.thaw (x := "powers") rfl fun X => ?_
      refine Tr.congr (Tr.cp (Ev.op (Ev.idxLn (i := -1) (ds := [.int PIE]) (d := .int PIE) (Ev.name rfl) (Ev.neg Ev.int) (by decide) (by decide) (by decide) rfl) (Ev.idxLn (i := -1) (ds := [.int PIE]) (d := .int PIE) (Ev.name rfl) (Ev.neg Ev.int) (by decide) (by decide) (by decide) rfl) (op_mul (IntMulOk.of_left (by decide)))) (Ev.name rfl) cmp_le) ?_
      exact decide_eq_false (by omega)
    refine Ex.freeze (x := "powers") rfl ?_
    refine Ex.cons (Ex1.assignL (ds := [.int m]) (.inl rfl) (fun X => EvL.list (.cons (Ev.name rfl) .nil) szl) ?_)
    refine Ex.freeze (x := "parts") rfl ?_
    have hq := hpure m hge hlt2
    generalize hqd : m.fdiv PIE = q at hq
    have hfd : q = m / 1000000000000000000 := by rw [← hqd, hpie]; exact Int.fdiv_eq_ediv_of_nonneg _ (by decide)
    have hq1 : 1 ≤ q ∧ q < PIE := by rw [hfd]; rw [hpie] at hge hlt2 ⊢; omega
    have hr : 0 ≤ m - q * PIE ∧ m - q * PIE < PIE := by rw [hfd]; rw [hpie]; omega
    generalize hrd : m - q * PIE = r at hq hr
    have hqb : q.natAbs < PIE.natAbs * PIE.natAbs := by rw [hpie] at hq1 ⊢; simp; omega
    have hrb : r.natAbs < PIE.natAbs * PIE.natAbs := by rw [hpie] at hr ⊢; simp; omega
    refine Ex.cons ?_
    refine Ex1.for (ds := [.int PIE]) (R := fun j => [("parts", .fz (.list (if j = 0 then [.int m] else [.int q, .int r]))), ("sign", .fz (.str sg)), ("m", .fz (.int m))]) (fun X => EvI.congr (EvI.callT rfl B.reversed.1 B.reversed.2 (.cons (Ev.name rfl) .nil) ci_rev) rfl) (.cons rfl (.cons rfl (.cons rfl .nil))) (fun j d hd => ?_) ?_
    · have hj : j = 0 ∧ d = .int PIE := by
        match j, hd with
        | 0, hd => simp at hd; exact ⟨rfl, hd.symm⟩
      obtain ⟨rfl, rfl⟩ := hj
      refine ⟨_, fun X₁ => Asg.name (.inl rfl), fun X₁ => ?_⟩
      refine Ex.cons (Ex1.assignL (ds := []) (.inl rfl) (fun X => EvL.list .nil (by decide)) ?_)
      refine Ex.cons ?_
      refine Ex1.for (ds := [.int m]) (R := fun j => [("halves", .own (if j = 0 then [] else [.int q, .int r])), ("p", .fz (.int PIE)), ("sign", .fz (.str sg)), ("m", .fz (.int m))]) (fun X => EvI.list (Ev.name rfl)) (.cons rfl (.cons rfl (.cons rfl (.cons rfl .nil)))) (fun j d hd => ?_) ?_
      · have hj : j = 0 ∧ d = .int m := by
          match j, hd with
          | 0, hd => simp at hd; exact ⟨rfl, hd.symm⟩
        obtain ⟨rfl, rfl⟩ := hj
        refine ⟨_, fun X₁ => Asg.name (.inl rfl), fun X₁ => ?_⟩
        refine Ex.cons (Ex1.assign (d := .int q) (.inl rfl) (fun X => Ev.congr (Ev.op (Ev.name rfl) (Ev.name rfl) (op_fdiv (by decide) ?_)) (by rw [hqd])) ?_)
        · unfold Builtin.divisionGoesByPylong
          simp
          intro h
          exact absurd h (by decide +kernel)
        refine Ex.cons (Ex1.mut (ds := []) (ds' := [.int q]) rfl F.slot_list_append F.type_list_append (fun X => .cons (Ev.name rfl) .nil) (mut_append (by decide)) ?_)
        refine Ex.cons (Ex1.mut (ds := [.int q]) (ds' := [.int q, .int r]) rfl F.slot_list_append F.type_list_append (fun X => .cons (Ev.congr (Ev.op (Ev.name rfl) (Ev.op (Ev.name rfl) (Ev.name rfl) (op_mul ?_)) op_sub) (by rw [hrd])) .nil) (mut_append szl) ?_)
        · exact IntMulOk.of_right (by decide)
        refine Ex.nil ?_
        exact .cons rfl (.cons rfl (.cons rfl (.cons rfl .nil)))
      · refine Ex.freeze (x := "halves") rfl ?_
        refine Ex.cons (Ex1.assign (d := .list [.int q, .int r]) (.inl rfl) (fun X => Ev.name rfl) ?_)
        refine Ex.nil ?_
        exact .cons rfl (.cons rfl (.cons rfl .nil))
    refine Ex.cons (Ex1.assign (d := .int 0) (.inl rfl) (fun X => Ev.int) ?_)
    refine Ex.cons ?_
    refine Ex1.while (R := fun _ => [("first", .fz (.int 0)), ("parts", .fz (.list [.int q, .int r])), ("sign", .fz (.str sg)), ("m", .fz (.int m))]) 0 (fun _ => false) (.cons rfl (.cons rfl (.cons rfl (.cons rfl .nil)))) rfl (fun j X₁ X hj => ?_) (fun j X₁ hj => (nomatch hj)) (fun j hj _ => ?_)
    · refine Tr.congr (Tr.cp (Ev.idxL (i := 0) (d := .int q) (Ev.name rfl) (Ev.name rfl) (by decide) (by decide) rfl) Ev.int cmp_eq) ?_
      exact beq_eq_false_iff_ne.mpr (by omega)
    refine Ex.cons (Ex1.assignL (ds := [.str (numText q)]) (.inl rfl) (fun X => EvL.list (.cons (Ev.callT rfl B.str.1 B.str.2 (.cons (Ev.idxL (i := 0) (d := .int q) (Ev.name rfl) (Ev.name rfl) (by decide) (by decide) rfl) .nil) (hst q hqb)) .nil) szl) ?_)
    refine Ex.cons ?_
    obtain ⟨c, P, hcc, hcP⟩ := hC
    refine Ex1.extG (n := n) (ds := [.int r]) (outs := [.str (Txt.rjustF (numText r) 18 48)]) (cl := []) (ρc := []) (x := "pieces") rfl (fun X => ?_) ⟨B.bf, ⟨c, P, hcc, hcP⟩, rfl, closureNil (by decide), (fun x c h => (nomatch h)), rfl, rfl, by decide, (fun x sl h => (nomatch h)), rfl, fun j d d' h1 h2 => ?_⟩ (by simp) ?_
    · exact EvI.list (EvL.ev (EvL.congr (EvL.from (k := 1) (ds := [.int q, .int r]) (Ev.name rfl) (Ev.congr (Ev.op (Ev.name rfl) Ev.int op_add) rfl) szl) rfl))
    · have hj : j = 0 ∧ d = .int r ∧ d' = .str (Txt.rjustF (numText r) 18 48) := by
        match j, h1, h2 with
        | 0, h1, h2 => simp at h1 h2; exact ⟨rfl, h1.symm, h2.symm⟩
      obtain ⟨rfl, rfl, rfl⟩ := hj
      refine ⟨trivial, [("v", .fz (.int r))], fun C code X₁ => Asg.name (.inl rfl), fun C code X₁ X => ?_⟩
      exact Ev.meth (a := .str (numText r)) (Ev.callT rfl B.str.1 B.str.2 (.cons (Ev.name rfl) .nil) (c_str_int (Nat.lt_trans hrb big))) F.plainAttrs_str F.slot_str_rjust F.type_str_rjust (.cons (Ev.gd hD) (.cons Ev.str .nil)) (c_rjust0 (by decide) rfl)
    refine Ex.freeze (x := "pieces") rfl ?_
    refine Ex.cons (Ex1.ret (d := .str (numText i)) (fun X => ?_) rfl)
    have hjn : ([numText q, Txt.rjustF (numText r) 18 48].map (·.length)).sum ≤ 200 := by
      have h1 := hlen q hqb
      have h2 := hlen r hrb
      have h3 : (Txt.rjustF (numText r) 18 48).length ≤ 78 := by
        unfold Txt.rjustF
        split
        · omega
        · simp [Builtin.Str.padded, Str.length] at h2 ⊢; omega
      simp; omega
    refine Ev.congr (Ev.op (Ev.name rfl) (Ev.meth (a := .str "") Ev.str F.plainAttrs_str F.slot_str_join F.type_str_join (.cons (Ev.name rfl) .nil) (c_join (xs := [numText q, Txt.rjustF (numText r) 18 48]) ?_)) (op_addS ?_)) (by rw [← hq, hres])
    · have : (Str.ofString "").length = 0 := rfl
      rw [this]; omega
    · rw [← hq]
      exact Nat.le_trans (Nat.add_le_add hsg hml) (by decide)
end
end Mine
set_option Elab.async false
set_option maxRecDepth 100000
set_option linter.unusedVariables false
set_option tactic.hygienic false
namespace Mine
open PySem PyProof.Rows

theorem enumD_map {α : Type} (inj : α → PyData) : ∀ (xs : List α) (c : Nat), enumD c (xs.map inj) = (xs.zipIdx c).map fun p => .tuple [.int (p.2 : Int), inj p.1]
  | [], c => rfl
  | x :: xs, c => by simp [enumD, enumD_map inj xs (c + 1)]

theorem strD_snoc (l : List Str) (x : Str) : strD (l ++ [x]) = strD l ++ [.str x] := by simp [strD]
theorem map_snoc {α : Type} (F : α → PyData) (l : List α) (x : α) : (l ++ [x]).map F = l.map F ++ [F x] := by simp
noncomputable def inkS (x : Str) : Bool := (Txt.stripChars x " ").length != 0
noncomputable def sLines (ps : List Str) : List Int := ((ps.zipIdx 1).filter fun p => inkS p.1).map fun p => (p.2 : Int)

structure PS where
  k : Str
  nm : Str
  ts : List (Str × Str)
noncomputable def psD (s : PS) : PyData := .tuple [.str s.k, .str s.nm, .list (s.ts.map tokD)]
noncomputable def toksT (ts : List (Str × Str)) : Str := Txt.join " " (ts.map (·.2))
noncomputable def psT (s : PS) : Str :=
  if s.k == "set" then catS ["set ", s.nm, " = ", toksT s.ts] else if (["else", "end"] : List Str).contains s.k then s.k else catS [s.k, " ", toksT s.ts]

section
variable {g : G} {n : Nat} {cd : Value}
theorem f_source_lines (hK : FnK g 7 .none cd) (B : Blt g) {x : Str} (hx : x.length ≤ 65536) (hl : (Txt.split x "\n").length ≤ 65536) (hz : ∀ y ∈ Txt.split x "\n", y.length ≤ 65536) :
    FnC g (n + 1) "source_lines" [.str x] (.list (intD (sLines (Txt.split x "\n")))) := by
  refine mkFn (ps := ["src"]) (dvs := []) (dds := []) hK rfl (fun pm doc s vs _ h => ?_) Kds.nil (by decide) (fun L p hp => .inl (by rw [List.mem_singleton.mp hp]; rfl)) fun pm doc L a X₀ => ?_
  · obtain ⟨v, rfl⟩ := len1 h
    exact .of_eq rfl
  · simp only [envAt, callEnvC, fdOf, Calls.docDef, newEnv]
    conv in (fBody (fnAt 7)) => whnf
    conv in (fScope (fnAt 7)) => whnf
    refine Ex.cons (Ex1.ret (d := .list (intD (sLines (Txt.split x "\n")))) (fun X => EvL.ev ?_) rfl)
    refine EvL.congr (EvL.compMap (xs := (Txt.split x "\n").zipIdx 1) (inj := fun p => .tuple [.int (p.2 : Int), .str p.1]) (F := fun p => .int (p.2 : Int)) (q := fun p => inkS p.1) (ρc := []) (cl := []) ?_ (CompOk.map0 (by simpa [sizeLine] using Nat.le_trans hl (by decide)) fun p hp => ?_)) ?_
    · refine EvI.congr (EvI.callT rfl B.enumerate.1 B.enumerate.2 (.cons (EvL.ev (EvL.meth (a := .str x) (Ev.name rfl) F.plainAttrs_str F.slot_str_split F.type_str_split (.cons Ev.str .nil) (c_split rfl (szn hx) (szn hl)))) (.cons Ev.int .nil)) ci_enum1) ?_
      rw [strD, enumD_map]
    · refine ⟨[("line", .fz (.str p.1)), ("n", .fz (.int (p.2 : Int)))], fun C X₁ => Asg.tuple (.cons (Asg.name (.inl rfl)) (.cons (Asg.name (.inl rfl)) .nil)), fun C X₁ X => ?_, fun _ C X₁ X => Ev.name rfl⟩
      have hp1 : p.1.length ≤ 65536 := hz _ (by
        obtain ⟨a, b⟩ := p
        exact List.fst_mem_of_mem_zipIdx hp)
      show Tr g n X₁ X _ _ _ _
      refine Tr.val (Ev.meth (a := .str p.1) (Ev.name rfl) F.plainAttrs_str F.slot_str_strip F.type_str_strip (.cons Ev.str .nil) (c_strip (szn hp1))) (tr_str ?_)
      exact szn (Nat.le_trans (len_stripChars _ _) hp1)
    · simp [sLines, intD, List.map_map]

theorem f_statement_text (hK : FnK g 8 .none cd) {s : PS} (hT : FnC g n "token_text" [.list (s.ts.map tokD)] (.str (toksT s.ts))) (h1 : s.k.length ≤ 1000) (h2 : s.nm.length ≤ 1000) (h3 : (toksT s.ts).length ≤ 100000) : FnC g (n + 1) "statement_text" [psD s] (.str (psT s)) := by
  refine mkFn (ps := ["stmt"]) (dvs := []) (dds := []) hK rfl (fun pm doc s vs _ h => ?_) Kds.nil (by decide) (fun L p hp => .inl (by rw [List.mem_singleton.mp hp]; rfl)) fun pm doc L a X₀ => ?_
  · obtain ⟨v, rfl⟩ := len1 h
    exact .of_eq rfl
  · simp only [envAt, callEnvC, fdOf, Calls.docDef, newEnv]
    conv in (fBody (fnAt 8)) => whnf
    conv in (fScope (fnAt 8)) => whnf
    refine Ex.cons (Ex1.assignT (ds := [.str s.k, .str s.nm, .list (s.ts.map tokD)]) (fun X => Ev.name rfl) (.cons (Asg.name (.inl rfl)) (.cons (Asg.name (.inl rfl)) (.cons (Asg.name (.inl rfl)) .nil))) ?_)
    refine Ex.cons (Ex1.ite (fun X => Tr.cp (Ev.name rfl) Ev.str cmp_eqS) (fun hc => ?_) (fun hc => ?_))
    · refine Ex.cons (Ex1.ret (d := .str (psT s)) (fun X => ?_) rfl)
      have e : psT s = catS ["set ", s.nm, " = ", toksT s.ts] := by unfold psT; rw [if_pos hc]
      rw [e]
      refine Ev.fstr (.cons Ev.str (.cons (Ev.fv (Ev.name rfl) (fmt_str0 (Nat.le_trans h2 (by decide)))) (.cons Ev.str (.cons (Ev.fv (Ev.call hT rfl (.cons (Ev.name rfl) .nil)) (fmt_str0 (Nat.le_trans h3 (by decide)))) .nil)))) ?_
      have a1 : (Str.ofString "set ").length = 4 := rfl
      have a2 : (Str.ofString " = ").length = 3 := rfl
      simp [a1, a2, sizeLine]; lia
    refine Ex.nil ?_
    refine Ex.cons (Ex1.ite (fun X => Tr.cp (Ev.name rfl) (Ev.tuple (ds := strD ["else", "end"]) (.cons Ev.str (.cons Ev.str .nil)) (show 2 ≤ 16777216 by decide)) cmp_inST) (fun hc2 => ?_) (fun hc2 => ?_))
    · refine Ex.cons (Ex1.ret (d := .str (psT s)) (fun X => ?_) rfl)
      have e : psT s = s.k := by unfold psT; rw [if_neg (by rw [hc]; exact Bool.false_ne_true), if_pos hc2]
      rw [e]
      exact Ev.name rfl
    refine Ex.nil ?_
    refine Ex.cons (Ex1.ret (d := .str (psT s)) (fun X => ?_) rfl)
    have e : psT s = catS [s.k, " ", toksT s.ts] := by unfold psT; rw [if_neg (by rw [hc]; exact Bool.false_ne_true), if_neg (by rw [hc2]; exact Bool.false_ne_true)]
    rw [e]
    refine Ev.fstr (.cons (Ev.fv (Ev.name rfl) (fmt_str0 (Nat.le_trans h1 (by decide)))) (.cons Ev.str (.cons (Ev.fv (Ev.call hT rfl (.cons (Ev.name rfl) .nil)) (fmt_str0 (Nat.le_trans h3 (by decide)))) .nil))) ?_
    have a1 : (Str.ofString " ").length = 1 := rfl
    simp [a1, sizeLine]; lia

/-- the first place from a line on -/
noncomputable def firstFrom (ws : List Int) (line : Int) : PyData := match ws.findIdx? (fun w => decide (w ≥ line)) with | some k => .int (k : Int) | none => .none

theorem f_statement_at_line (hK : FnK g 9 .none cd) (B : Blt g) {x : Str} {ws : List Int} {line : Int} (hS : FnC g n "source_lines" [.str x] (.list (intD ws))) : FnC g (n + 1) "statement_at_line" [.str x, .int line] (firstFrom ws line) := by
  refine mkFn (ps := ["src", "line"]) (dvs := []) (dds := []) hK rfl (fun pm doc s vs _ h => ?_) Kds.nil (by decide) (fun L p hp => .inl ?_) fun pm doc L a X₀ => ?_
  · obtain ⟨v, u, rfl⟩ := len2 h
    exact .of_eq rfl
  · rcases List.mem_cons.mp hp with rfl | hp
    · rfl
    · rw [List.mem_singleton.mp hp]; rfl
  · simp only [envAt, callEnvC, fdOf, Calls.docDef, newEnv]
    conv in (fBody (fnAt 9)) => whnf
    conv in (fScope (fnAt 9)) => whnf
    refine Ex.cons (Ex1.forI (ds := enumD 0 (intD ws)) (R := fun _ => [("line", .fz (.int line))]) (J := fun i => ∀ m, m < i → ∀ w, ws[m]? = some w → ¬ w ≥ line) (fun m hm => (nomatch hm)) (fun X => EvI.callT rfl B.enumerate.1 B.enumerate.2 (.cons (Ev.call hS rfl (.cons (Ev.name rfl) .nil)) .nil) ci_enum) (.cons rfl .nil) (fun i d hJ hd => ?_) (fun hJ => ?_))
    · obtain ⟨d', hd', rfl⟩ := enumD_get hd
      rw [intD, List.getElem?_map] at hd'
      cases hw : ws[i]? with
      | none => rw [hw] at hd'; cases hd'
      | some w =>
        rw [hw] at hd'; cases hd'
        refine ⟨_, fun X₁ => Asg.tuple (.cons (Asg.name (.inl rfl)) (.cons (Asg.name (.inl rfl)) .nil)), fun X₁ => ?_⟩
        refine Ex.cons (Ex1.ite (fun X => Tr.cp (Ev.name rfl) (Ev.name rfl) cmp_ge) (fun hc => ?_) (fun hc => ?_))
        · refine Ex.cons (Ex1.ret (d := firstFrom ws line) (fun X => Ev.congr (Ev.name rfl) ?_) rfl)
          have : ws.findIdx? (fun w => decide (w ≥ line)) = some i := by
            rw [List.findIdx?_eq_some_iff_getElem]
            obtain ⟨hi, e⟩ := List.getElem?_eq_some_iff.mp hw
            refine ⟨hi, by rw [e]; exact hc, fun j hj => ?_⟩
            have := hJ j hj _ (List.getElem?_eq_getElem (by lia))
            simpa using this
          unfold firstFrom
          rw [this]; rfl
        · refine Ex.nil (Ex.nil ⟨.cons rfl .nil, fun m hm w' hw' => ?_⟩)
          rcases Nat.lt_or_ge m i with h | h
          · exact hJ m h w' hw'
          · have : m = i := by lia
            subst this
            rw [hw] at hw'; cases hw'
            exact of_decide_eq_false hc
    · refine Ex.cons (Ex1.ret (d := firstFrom ws line) (fun X => Ev.congr Ev.noneC ?_) rfl)
      have : ws.findIdx? (fun w => decide (w ≥ line)) = none := by
        rw [List.findIdx?_eq_none_iff]
        intro w hw
        obtain ⟨m, hm, e⟩ := List.mem_iff_getElem.mp hw
        have := hJ m (by rw [enumD_len, intD, List.length_map]; exact hm) w (by rw [← e]; exact List.getElem?_eq_getElem hm)
        exact decide_eq_false this
      unfold firstFrom
      rw [this]
end
end Mine
set_option Elab.async false
set_option maxRecDepth 100000
set_option linter.unusedVariables false
set_option tactic.hygienic false
namespace Mine
open PySem PyProof.Rows Builtin.Float

noncomputable def evD (e : Nat × Str) : PyData := .tuple [.int (e.1 : Int), .str e.2]
noncomputable def maxL (texts : List Str) : Nat := (texts.map (·.length)).foldl max 4
noncomputable def wOf (texts : List Str) : Nat := if 48 < maxL texts then 48 else maxL texts
noncomputable def whereOf (ls : List Int) (pc : Nat) : Int := if h : pc < ls.length then ls[pc] else (pc : Int) + 1
noncomputable def rowR (ls : List Int) (texts : List Str) (e : Nat × Str) : Str :=
  if e.2.length != 0 then catS [intSpecTextOf "5d" (whereOf ls e.1), "  ", Txt.ljust (texts.getD e.1 "") (wOf texts : Nat), "  # ", e.2] else catS [intSpecTextOf "5d" (whereOf ls e.1), "  ", texts.getD e.1 ""]

theorem foldl_max_ge : ∀ (l : List Nat) (a : Nat), a ≤ l.foldl max a ∧ (∀ x ∈ l, x ≤ l.foldl max a)
  | [], a => ⟨Nat.le_refl _, fun x h => nomatch h⟩
  | y :: l, a => by
    obtain ⟨h1, h2⟩ := foldl_max_ge l (max a y)
    rw [List.foldl_cons]
    refine ⟨by lia, fun x hx => ?_⟩
    rcases List.mem_cons.mp hx with rfl | hx
    · lia
    · exact h2 x hx
theorem foldl_max_mem : ∀ (l : List Nat) (a : Nat), l.foldl max a = a ∨ l.foldl max a ∈ l
  | [], a => .inl rfl
  | y :: l, a => by
    rw [List.foldl_cons]
    rcases foldl_max_mem l (max a y) with h | h
    · rw [h]
      rcases Nat.le_total a y with h' | h'
      · right; rw [Nat.max_eq_right h']; exact .head _
      · left; exact Nat.max_eq_left h'
    · right; exact .tail _ h
theorem maxL_is (texts : List Str) : IsMax (texts.map (fun t => (t.length : Int)) ++ [4]) (maxL texts : Nat) := by
  obtain ⟨h1, h2⟩ := foldl_max_ge (texts.map (·.length)) 4
  refine ⟨?_, fun i hi => ?_⟩
  · rcases foldl_max_mem (texts.map (·.length)) 4 with h | h
    · rw [show maxL texts = 4 from h]; simp
    · refine List.mem_append.mpr (.inl ?_)
      obtain ⟨t, ht, e⟩ := List.mem_map.mp h
      exact List.mem_map.mpr ⟨t, ht, by rw [show maxL texts = t.length from e.symm]⟩
  · rcases List.mem_append.mp hi with hi | hi
    · obtain ⟨t, ht, rfl⟩ := List.mem_map.mp hi
      have := h2 t.length (List.mem_map.mpr ⟨t, ht, rfl⟩)
      exact Int.ofNat_le.mpr this
    · rw [List.mem_singleton.mp hi]
      exact Int.ofNat_le.mpr h1
theorem wOf_b (texts : List Str) : 4 ≤ wOf texts ∧ wOf texts ≤ 48 := by
  have := (foldl_max_ge (texts.map (·.length)) 4).1
  have h : 4 ≤ maxL texts := this
  unfold wOf
  split <;> lia
/-- what the width's spec must show, at one width -/
structure SpecW (w : Nat) : Prop where
  a : parseFormatSpec (catS [numText (w : Int), "s"]).cps.toList "str" 60 = .ok (fSpec 60 w)
  b : ((catS [numText (w : Int), "s"]).length == 0) = false
  c : (((catS [numText (w : Int), "s"]).cps.toList.drop 1).any (· ≥ 128) || ((catS [numText (w : Int), "s"]).cps.getD 0 0 ≥ 128 && !([60, 62, 61, 94] : List Nat).contains ((catS [numText (w : Int), "s"]).cps.getD 1 0))) = false
  d : Nat.ble (catS [numText (w : Int), "s"]).length sizeLine = true
  e : Nat.ble (numText (w : Int)).length 60 = true
noncomputable def AllW (k : Nat) : Prop := @Nat.rec (fun _ => Prop) True (fun n p => SpecW (n + 4) ∧ p) k
theorem allW_at : ∀ (k : Nat), AllW k → ∀ w, w < k → SpecW (w + 4)
  | 0, _, _, h => absurd h (Nat.not_lt_zero _)
  | k + 1, hk, w, h => (Nat.lt_or_eq_of_le (Nat.le_of_lt_succ h)).elim (allW_at k hk.2 w) fun e => e ▸ hk.1
theorem specW_all : AllW 45 := by
  unfold AllW
  repeat' (first | exact True.intro | exact ⟨rfl, rfl, rfl, rfl, rfl⟩ | refine And.intro ?_ ?_)
theorem spec_w (w : Nat) (h : 4 ≤ w ∧ w ≤ 48) : parseFormatSpec (catS [numText (w : Int), "s"]).cps.toList "str" 60 = .ok (fSpec 60 w) ∧ ((catS [numText (w : Int), "s"]).length == 0) = false ∧
    (((catS [numText (w : Int), "s"]).cps.toList.drop 1).any (· ≥ 128) || ((catS [numText (w : Int), "s"]).cps.getD 0 0 ≥ 128 && !([60, 62, 61, 94] : List Nat).contains ((catS [numText (w : Int), "s"]).cps.getD 1 0))) = false ∧ (catS [numText (w : Int), "s"]).length ≤ sizeLine ∧ (numText (w : Int)).length ≤ 60 := by
  obtain ⟨k, rfl⟩ := Nat.exists_eq_add_of_le' h.1
  have q := allW_at 45 specW_all k (Nat.lt_succ_of_le (Nat.le_of_add_le_add_right (b := 4) (show k + 4 ≤ 44 + 4 from h.2)))
  exact ⟨q.a, q.b, q.c, Nat.le_of_ble_eq_true q.d, Nat.le_of_ble_eq_true q.e⟩
end Mine
set_option Elab.async false
set_option maxRecDepth 100000
set_option linter.unusedVariables false
set_option tactic.hygienic false
namespace Mine
open PySem PyProof.Rows Builtin.Float

section
variable {g : G} {n : Nat} {cd df : Value}

theorem b_render (B : Blt g) {x : Str} {ws : List Int} {ss : List PS} {evs : List (Nat × Str)} {off : Int} (hS : FnC g n "source_lines" [.str x] (.list (intD ws))) (hT : ∀ s ∈ ss, FnC g n "statement_text" [psD s] (.str (psT s)))
    (hws : ws.length ≤ 1000) (hss : ss.length ≤ 1000) (hev : evs.length ≤ 1000) (hpc : ∀ e ∈ evs, e.1 < ss.length ∧ e.2.length ≤ 1000) (htl : ∀ s ∈ ss, (psT s).length ≤ 10000) (hwb : ∀ k : Nat, k < 1000 → (whereOf (ws.map (· + off)) k).natAbs < 10 ^ 4300 ∧ (intSpecTextOf "5d" (whereOf (ws.map (· + off)) k)).length ≤ 10000)
    (pm doc : Value) (L a : Addr) (X₀ : List Addr) :
    Ex g n X₀ (envAt 10 pm cd doc df L a) (fzs ["src", "stmts", "events", "offset"] [.str x, .list (ss.map psD), .list (evs.map evD), .int off]) (fBody (fnAt 10)) (fun f _ => f = .ret (.list (strD (evs.map (rowR (ws.map (· + off)) (ss.map psT)))))) := by
  simp only [envAt, callEnvC, fdOf, Calls.docDef, newEnv]
  conv in (fBody (fnAt 10)) => whnf
  conv in (fScope (fnAt 10)) => whnf
  conv in (cellsFrom _ _ _) => whnf
  refine Ex.cons (Ex1.compMap (xs := ws) (inj := fun i => .int i) (F := fun i => .int (i + off)) (q := fun _ => true) (ρc := [("offset", .fz (.int off))]) (cl := [("offset", L + 1)]) (.inl rfl) (fun X => EvI.list (Ev.call hS rfl (.cons (Ev.name rfl) .nil))) (CompOk.map rfl (fun x c h => h) rfl (by decide) (by decide) (FreeOk.cons rfl rfl rfl rfl rfl FreeOk.nil) (szn (Nat.le_trans hws (by decide))) fun i hi => ?_) ?_)
  · exact ⟨[("n", .fz (.int i)), ("offset", .fz (.int off))], .cons rfl .nil, fun C X₁ => Asg.name (.inl rfl), fun C X₁ X => rfl, fun _ C X₁ X => Ev.op (Ev.name rfl) (Ev.name rfl) op_add⟩
  rw [map_tt]
  refine Ex.freeze (x := "lines") rfl ?_
  refine Ex.cons (Ex1.compMap (xs := ss) (inj := psD) (F := fun s => .str (psT s)) (q := fun _ => true) (ρc := []) (cl := []) (.inl rfl) (fun X => EvI.list (Ev.name rfl)) (CompOk.map0 (szn (Nat.le_trans hss (by decide))) fun s hs => ?_) ?_)
  · exact ⟨[("s", .fz (psD s))], fun C X₁ => Asg.name (.inl rfl), fun C X₁ X => rfl, fun _ C X₁ X => Ev.call (hT s hs) rfl (.cons (Ev.name rfl) .nil)⟩
  rw [map_tt]
  refine Ex.freeze (x := "texts") rfl ?_
  have et : (ss.map fun s => PyData.str (psT s)) = (ss.map psT).map .str := by rw [List.map_map]; rfl
  have el : (ws.map fun i => PyData.int (i + off)) = intD (ws.map (· + off)) := by rw [intD, List.map_map]; rfl
  rw [et, el]
  have htl' : ∀ t ∈ ss.map psT, t.length ≤ 10000 := fun t ht => by
    obtain ⟨s, hs, rfl⟩ := List.mem_map.mp ht
    exact htl s hs
  have hpc' : ∀ e ∈ evs, e.1 < (ss.map psT).length ∧ e.2.length ≤ 1000 := fun e he => by rw [List.length_map]; exact hpc e he
  have hss' : (ss.map psT).length ≤ 1000 := by rw [List.length_map]; exact hss
  have hws' : (ws.map (· + off)).length ≤ 1000 := by rw [List.length_map]; exact hws
  generalize ws.map (· + off) = ls at *
  generalize ss.map psT = texts at *
  clear hT hS hpc htl hss
  refine Ex.cons (Ex1.assign (d := .int (wOf texts : Nat)) (.inl rfl) (fun X => ?_) ?_)
  · refine Ev.congr (Ev.callB rfl B.min.1 B.min.2 (.cons (Ev.callB rfl B.max.1 B.max.2 (.cons (EvL.ev (EvL.congr (EvL.add (ds := texts.map fun t => .int (t.length : Int)) (ds' := [.int 4]) (EvL.ev (EvL.congr (EvL.compMap (xs := texts) (inj := .str) (F := fun t => .int (t.length : Int)) (q := fun _ => true) (ρc := []) (cl := []) (EvI.list (Ev.name rfl)) (CompOk.map0 (szn (Nat.le_trans hss' (by decide))) fun t ht => ?_)) (map_tt _ _))) (EvL.ev (EvL.list (.cons Ev.int .nil) szl)) ?_) ?_)) .nil) (c_max (maxL_is texts))) (.cons Ev.int .nil)) (c_min trivial)) ?_
    · exact ⟨[("t", .fz (.str t))], fun C X₁ => Asg.name (.inl rfl), fun C X₁ X => rfl, fun _ C X₁ X => Ev.callB rfl B.len.1 B.len.2 (.cons (Ev.name rfl) .nil) (c_len_str (szn (Nat.le_trans (htl' t ht) (by decide))))⟩
    · simp [sizeLine]; lia
    · simp [intD]
    · unfold wOf
      by_cases h : 48 < maxL texts
      · rw [if_pos h, if_pos (by lia)]; rfl
      · rw [if_neg h, if_neg (by lia)]
  refine Ex.cons (Ex1.assignL (ds := []) (.inl rfl) (fun X => EvL.list .nil (by decide)) ?_)
  refine Ex.cons (Ex1.for (ds := evs.map evD) (R := fun i => [("shown", .own (strD ((evs.take i).map (rowR ls texts)))), ("width", .fz (.int (wOf texts : Nat))), ("texts", .fz (.list (texts.map .str))), ("lines", .fz (.list (intD ls)))]) (fun X => EvI.list (Ev.name rfl)) (.cons rfl (.cons rfl (.cons rfl (.cons rfl .nil)))) (fun i d hd => ?_) ?_)
  · rw [List.getElem?_map] at hd
    cases he : evs[i]? with
    | none => rw [he] at hd; cases hd
    | some e =>
      rw [he] at hd; cases hd
      obtain ⟨hpe, hne⟩ := hpc' e (List.mem_of_getElem? he)
      refine ⟨_, fun X₁ => Asg.tuple (.cons (Asg.name (.inl rfl)) (.cons (Asg.name (.inl rfl)) .nil)), fun X₁ => ?_⟩
      have hlt : e.1 < 2 ^ 62 := Nat.lt_of_lt_of_le hpe (Nat.le_trans hss' (by decide))
      refine Ex.cons (Ex1.assign (d := .int (whereOf ls e.1)) (.inl rfl) (fun X => Ev.ite (Tr.cp (Ev.name rfl) (Ev.callB rfl B.len.1 B.len.2 (.cons (Ev.name rfl) .nil) (c_len_list (ds := intD ls) (by simp [intD, sizeLine]; lia))) cmp_lt) (fun hc => ?_) (fun hc => ?_)) ?_)
      · have hlt2 : e.1 < ls.length := by have := of_decide_eq_true hc; simp [intD] at this; lia
        refine Ev.idxL (i := (e.1 : Int)) (Ev.name rfl) (Ev.name rfl) (by lia) (by lia) ?_
        simp [intD, whereOf, hlt2]
      · have hge : ¬ e.1 < ls.length := by have := of_decide_eq_false hc; simp [intD] at this; lia
        refine Ev.congr (Ev.op (Ev.name rfl) Ev.int op_add) ?_
        simp [whereOf, hge]
      have htx : texts[e.1]? = some (texts.getD e.1 "") := by rw [List.getElem?_eq_getElem hpe]; simp [hpe]
      have htm : texts.getD e.1 "" ∈ texts := List.mem_of_getElem? htx
      have htl2 := htl' _ htm
      obtain ⟨hw1, hw2⟩ := hwb e.1 (Nat.lt_of_lt_of_le hpe hss')
      refine Ex.cons (Ex1.assign (d := .str (texts.getD e.1 "")) (.inl rfl) (fun X => Ev.idxL (i := (e.1 : Int)) (Ev.name rfl) (Ev.name rfl) (by lia) (by lia) ?_) ?_)
      · rw [Int.toNat_natCast, List.getElem?_map, htx]; rfl
      have hrow : (evs.take (i + 1)).map (rowR ls texts) = (evs.take i).map (rowR ls texts) ++ [rowR ls texts e] := by rw [List.take_add_one, he]; simp
      have hsz : (strD ((evs.take i).map (rowR ls texts))).length ≤ sizeLine := by
        simp [strD, sizeLine]; lia
      have hd5 : FmtB g n (.int (whereOf ls e.1)) "5d" (intSpecTextOf "5d" (whereOf ls e.1)) := fmt_int hw1 rfl (by decide)
      obtain ⟨s1, s2, s3, s4, s5⟩ := spec_w (wOf texts) (wOf_b texts)
      refine Ex.cons (Ex1.ite (fun X => Tr.val (Ev.name rfl) (tr_str (szn (Nat.le_trans hne (by decide))))) (fun hc => ?_) (fun hc => ?_))
      · refine Ex.cons (Ex1.mut (ds' := strD ((evs.take (i + 1)).map (rowR ls texts))) rfl F.slot_list_append F.type_list_append (args := [.str (rowR ls texts e)]) (fun X => .cons ?_ .nil) ?_ ?_)
        · have er : rowR ls texts e = catS [intSpecTextOf "5d" (whereOf ls e.1), "  ", Txt.ljust (texts.getD e.1 "") (wOf texts : Nat), "  # ", e.2] := by unfold rowR; rw [if_pos hc]
          rw [er]
          refine Ev.fstr (.cons (Ev.fvs (Ev.name rfl) (Ev.fstr1 Ev.str) hd5) (.cons Ev.str (.cons (Ev.fvs (Ev.name rfl) (Ev.fstr (xs := [numText (wOf texts : Nat), "s"]) (.cons (Ev.fv (Ev.name rfl) (fmt_int0 ?_)) (.cons Ev.str .nil)) ?_) (fmt_strL (by have := wOf_b texts; lia) (Nat.le_trans htl2 (by decide)) s2 s3 s1 s4)) (.cons Ev.str (.cons (Ev.fv (Ev.name rfl) (fmt_str0 (szn (Nat.le_trans hne (by decide))))) .nil))))) ?_
          · have := wOf_b texts
            exact Nat.lt_of_le_of_lt (Nat.log2_le_self _) (by simp; lia)
          · have a1 : (Str.ofString "s").length = 1 := rfl
            simp [a1, sizeLine]; lia
          · have a1 : (Str.ofString "  ").length = 2 := rfl
            have a2 : (Str.ofString "  # ").length = 4 := rfl
            have a3 : (Txt.ljust (texts.getD e.1 "") (wOf texts : Nat)).length ≤ 10048 := by
              unfold Txt.ljust
              have := wOf_b texts
              split
              · lia
              · simp [Builtin.Str.padded, Str.length] at htl2 ⊢; lia
            simp only [List.map_cons, List.map_nil, List.sum_cons, List.sum_nil, a1, a2]
            show _ ≤ 16777216
            lia
        · rw [hrow, strD_snoc]
          exact mut_append hsz
        · exact Ex.nil (Ex.nil (.cons rfl (.cons rfl (.cons rfl (.cons rfl .nil)))))
      · refine Ex.cons (Ex1.mut (ds' := strD ((evs.take (i + 1)).map (rowR ls texts))) rfl F.slot_list_append F.type_list_append (args := [.str (rowR ls texts e)]) (fun X => .cons ?_ .nil) ?_ ?_)
        · have er : rowR ls texts e = catS [intSpecTextOf "5d" (whereOf ls e.1), "  ", texts.getD e.1 ""] := by unfold rowR; rw [if_neg (by rw [hc]; exact Bool.false_ne_true)]
          rw [er]
          refine Ev.fstr (.cons (Ev.fvs (Ev.name rfl) (Ev.fstr1 Ev.str) hd5) (.cons Ev.str (.cons (Ev.fv (Ev.name rfl) (fmt_str0 (szn (Nat.le_trans htl2 (by decide))))) .nil))) ?_
          have a1 : (Str.ofString "  ").length = 2 := rfl
          simp only [List.map_cons, List.map_nil, List.sum_cons, List.sum_nil, a1]
          show _ ≤ 16777216
          lia
        · rw [hrow, strD_snoc]
          exact mut_append hsz
        · exact Ex.nil (Ex.nil (.cons rfl (.cons rfl (.cons rfl (.cons rfl .nil)))))
  · refine Ex.freeze (x := "shown") rfl ?_
    refine Ex.cons (Ex1.ret (d := .list (strD (evs.map (rowR ls texts)))) (fun X => Ev.congr (Ev.name rfl) ?_) rfl)
    rw [List.length_map, List.take_length]

/-- the defaults of a function: a tuple of the top -/
theorem f_render4 {T : Addr} {t0 : Tok} {m : Nat} (hK : FnK g 10 (.ref T) cd) (hT0 : (T, tupObj [.int 0 t0] m) ∈ g.W.K) {d : PyData} {d1 d2 d3 d4 : PyData}
    (h : ∀ pm doc L a X₀, Ex g n X₀ (envAt 10 pm cd doc (.ref T) L a) (fzs ["src", "stmts", "events", "offset"] [d1, d2, d3, d4]) (fBody (fnAt 10)) (fun f _ => f = .ret d)) : FnC g (n + 1) "render" [d1, d2, d3, d4] d := by
  refine mkFn (ps := ["src", "stmts", "events", "offset"]) (dvs := []) (dds := []) hK rfl (fun pm doc s vs hw h => ?_) Kds.nil (by decide) (fun L p hp => ?_) fun pm doc L a X₀ => h pm doc L a X₀
  · obtain ⟨v1, v2, v3, v4, rfl⟩ := len4 h
    exact .of_defaults rfl (hw.k _ hT0) rfl rfl rfl
  · rcases List.mem_cons.mp hp with rfl | hp
    · exact .inl rfl
    rcases List.mem_cons.mp hp with rfl | hp
    · exact .inl rfl
    rcases List.mem_cons.mp hp with rfl | hp
    · exact .inl rfl
    rw [List.mem_singleton.mp hp]
    exact .inr ⟨rfl, rfl⟩
theorem f_render3 {T : Addr} {t0 : Tok} {m : Nat} (hK : FnK g 10 (.ref T) cd) (hT0 : (T, tupObj [.int 0 t0] m) ∈ g.W.K) {d : PyData} {d1 d2 d3 : PyData}
    (h : ∀ pm doc L a X₀, Ex g n X₀ (envAt 10 pm cd doc (.ref T) L a) (fzs ["src", "stmts", "events", "offset"] [d1, d2, d3, .int 0]) (fBody (fnAt 10)) (fun f _ => f = .ret d)) : FnC g (n + 1) "render" [d1, d2, d3] d := by
  refine mkFn (ps := ["src", "stmts", "events", "offset"]) (dvs := [.int 0 t0]) (dds := [.int 0]) hK rfl (fun pm doc s vs hw h => ?_) (.cons (Kd.int 0 t0) .nil) (by decide) (fun L p hp => ?_) fun pm doc L a X₀ => h pm doc L a X₀
  · obtain ⟨v1, v2, v3, rfl⟩ := len3 h
    exact .of_defaults rfl (hw.k _ hT0) rfl rfl rfl
  · rcases List.mem_cons.mp hp with rfl | hp
    · exact .inl rfl
    rcases List.mem_cons.mp hp with rfl | hp
    · exact .inl rfl
    rcases List.mem_cons.mp hp with rfl | hp
    · exact .inl rfl
    rw [List.mem_singleton.mp hp]
    exact .inr ⟨rfl, rfl⟩
end
end Mine
set_option Elab.async false
set_option maxRecDepth 100000
set_option linter.unusedVariables false
set_option tactic.hygienic false
namespace Mine
open PySem PyProof.Rows Builtin.Float

structure Mv1 where
  pc : Nat
  op : Str
  arg : Int
  st : List Int
  note : Str
noncomputable def mvD (m : Mv1) : PyData := .tuple [.int (m.pc : Int), .tuple [.str m.op, .int m.arg], .list (intD m.st), .str m.note]
noncomputable def cellsT (st : List Int) : Str := Txt.join " " (st.map numText)
noncomputable def cutT (w : Int) (c : Str) : Str := if (c.length : Int) > w then ("... " : Str) ++ Txt.slice c (some (-(w - 4))) none else c
noncomputable def rowM (w : Int) (m : Mv1) : Str :=
  if m.note.length != 0 then catS [intSpecTextOf "6d" (m.pc : Int), "  ", Txt.ljust m.op ((5 : Nat) : Int), " ", Txt.rjust (numText m.arg) ((6 : Nat) : Int), "  [", cutT w (cellsT m.st), "]"] ++ catS ["  # ", m.note]
  else catS [intSpecTextOf "6d" (m.pc : Int), "  ", Txt.ljust m.op ((5 : Nat) : Int), " ", Txt.rjust (numText m.arg) ((6 : Nat) : Int), "  [", cutT w (cellsT m.st), "]"]

theorem padded_len (x : Str) (l r c : Nat) : (Builtin.Str.padded x l r c).length = l + x.length + r := by simp [Builtin.Str.padded, Str.length]; lia
theorem ljust_len (x : Str) (w : Nat) : (Txt.ljust x (w : Int)).length ≤ x.length + w := by
  unfold Txt.ljust
  split
  · lia
  · rw [padded_len]; lia
theorem rjust_len (x : Str) (w : Nat) : (Txt.rjust x (w : Int)).length ≤ x.length + w := by
  unfold Txt.rjust
  split
  · lia
  · rw [padded_len]; lia
theorem catS_len (xs : List Str) : (catS xs).length = (xs.map (·.length)).sum := by
  have : ∀ (xs : List Str) (o : Str), (xs.foldl (· ++ ·) o).length = o.length + (xs.map (·.length)).sum := by
    intro xs
    induction xs with
    | nil => intro o; simp
    | cons x xs ih => intro o; rw [List.foldl_cons, ih, strLen_append]; simp; lia
  unfold catS
  rw [this]
  show 0 + _ = _
  lia

section
variable {g : G} {n : Nat} {cd df : Value}

theorem b_render_machine (B : Blt g) (hC : ∃ c P, cd = .ref c ∧ (c, P) ∈ g.W.C) {ms : List Mv1} {w : Int} (hms : ms.length ≤ 1000) (hN : ∀ m ∈ ms, (∀ v ∈ m.st, FnC g (n + 3) "number_text" [.int v] (.str (numText v)) ∧ (numText v).length ≤ 100) ∧ FnC g (n + 7) "number_text" [.int m.arg] (.str (numText m.arg)) ∧ (numText m.arg).length ≤ 100 ∧ m.st.length ≤ 1000 ∧ m.op.length ≤ 1000 ∧ m.note.length ≤ 1000 ∧ (m.pc : Int).natAbs < 10 ^ 4300 ∧ (intSpecTextOf "6d" (m.pc : Int)).length ≤ 10000)
    (pm doc : Value) (L a : Addr) (X₀ : List Addr) :
    Ex g (n + 7) X₀ (envAt 11 pm cd doc df L a) (fzs ["events", "width"] [.list (ms.map mvD), .int w]) (fBody (fnAt 11)) (fun f _ => f = .ret (.list (strD (ms.map (rowM w))))) := by
  simp only [envAt, callEnvC, fdOf, Calls.docDef, newEnv]
  conv in (fBody (fnAt 11)) => whnf
  conv in (fScope (fnAt 11)) => whnf
  conv in (cellsFrom _ _ _) => whnf
  refine Ex.cons (Ex1.assignL (ds := []) (.inl rfl) (fun X => EvL.list .nil (by decide)) ?_)
  refine Ex.cons (Ex1.for (ds := ms.map mvD) (R := fun i => [("shown", .own (strD ((ms.take i).map (rowM w)))), ("width", .fz (.int w))]) (fun X => EvI.list (Ev.name rfl)) (.cons rfl (.cons rfl .nil)) (fun i d hd => ?_) ?_)
  · rw [List.getElem?_map] at hd
    cases he : ms[i]? with
    | none => rw [he] at hd; cases hd
    | some m =>
      rw [he] at hd; cases hd
      obtain ⟨hst, harg, harl, hsl, hol, hnl, hpc, hpl⟩ := hN m (List.mem_of_getElem? he)
      refine ⟨_, fun X₁ => Asg.tuple (.cons (Asg.name (.inl rfl)) (.cons (Asg.tuple (.cons (Asg.name (.inl rfl)) (.cons (Asg.name (.inl rfl)) .nil))) (.cons (Asg.name (.inl rfl)) (.cons (Asg.name (.inl rfl)) .nil)))), fun X₁ => ?_⟩
      obtain ⟨c, P, hcc, hcP⟩ := hC
      have hsum : ((m.st.map numText).map (·.length)).sum ≤ 100 * m.st.length := by
        have : ∀ l : List Int, (∀ v ∈ l, (numText v).length ≤ 100) → ((l.map numText).map (·.length)).sum ≤ 100 * l.length := by
          intro l
          induction l with
          | nil => intro _; simp
          | cons v l ih =>
            intro h
            have h1 := h v (.head _)
            have h2 := ih fun u hu => h u (.tail _ hu)
            simp at h2 ⊢; lia
        exact this m.st fun v hv => (hst v hv).2
      have hcl : (cellsT m.st).length ≤ 200000 := by
        have := StrLaws.join_length_le (" " : Str) (m.st.map numText)
        have e1 : (Str.ofString " ").length = 1 := rfl
        rw [e1] at this
        unfold cellsT
        rw [beq_iff_eq.mp (join_plain_closes _ _)]
        simp only [List.length_map] at this
        lia
      refine Ex.cons (Ex1.assign (d := .str (cellsT m.st)) (.inl rfl) (fun X => ?_) ?_)
      · refine Ev.joinG (n := n) (xs := m.st.map numText) (ds := intD m.st) (ρc := []) (cl := []) Ev.str (EvI.list (Ev.name rfl)) ⟨B.bf, ⟨c, P, hcc, hcP⟩, rfl, closureNil (by decide), (fun x c h => (nomatch h)), rfl, rfl, by decide, (fun x sl h => (nomatch h)), by simp [strD, intD], fun j d d' h1 h2 => ?_⟩ ?_ ?_
        · rw [intD, List.getElem?_map] at h1
          rw [strD, List.getElem?_map, List.getElem?_map] at h2
          cases hv : m.st[j]? with
          | none => rw [hv] at h1; cases h1
          | some v =>
            rw [hv] at h1 h2
            cases h1; cases h2
            refine ⟨trivial, [("v", .fz (.int v))], fun C code X₁ => Asg.name (.inl rfl), fun C code X₁ X => ?_⟩
            exact Ev.call (hst v (List.mem_of_getElem? hv)).1 rfl (.cons (Ev.name rfl) .nil)
        · have e1 : (Str.ofString " ").length = 1 := rfl
          rw [e1]; simp only [List.length_map]; lia
        · simp; lia
      -- the cut
      have hcut : (cutT w (cellsT m.st)).length ≤ 200010 := by
        unfold cutT
        split
        · rw [strLen_append]
          have := Txt.slice_le (cellsT m.st) (some (-(w - 4))) none
          have e1 : (Str.ofString "... ").length = 4 := rfl
          lia
        · lia
      suffices rest : ∀ ρ : Rho, List.lookup ("cells" : Str) ρ = some (VSlot.fz (.str (cutT w (cellsT m.st)))) → List.lookup ("shown" : Str) ρ = some (VSlot.own (strD ((ms.take i).map (rowM w)))) → List.lookup ("width" : Str) ρ = some (VSlot.fz (.int w)) → List.lookup ("pc" : Str) ρ = some (VSlot.fz (.int (m.pc : Int))) → List.lookup ("op" : Str) ρ = some (VSlot.fz (.str m.op)) → List.lookup ("arg" : Str) ρ = some (VSlot.fz (.int m.arg)) → List.lookup ("note" : Str) ρ = some (VSlot.fz (.str m.note)) → Ex g (n + 7) X₁ _ ρ _ _ by
        refine Ex.cons (Ex1.ite (fun X => Tr.cp (Ev.callB rfl B.len.1 B.len.2 (.cons (Ev.name rfl) .nil) (c_len_str (Nat.le_trans hcl (by decide)))) (Ev.name rfl) cmp_gt) (fun hc => ?_) (fun hc => ?_))
        · refine Ex.cons (Ex1.assign (d := .str (cutT w (cellsT m.st))) (.inl rfl) (fun X => Ev.congr (Ev.op Ev.str (Ev.sliceFrom (Ev.name rfl) (Ev.neg (Ev.op (Ev.name rfl) Ev.int op_sub)) (Nat.le_trans hcl (by decide))) (op_addS ?_)) ?_) ?_)
          · have := Txt.slice_le (cellsT m.st) (some (-(w - 4))) none
            have e1 : (Str.ofString "... ").length = 4 := rfl
            rw [e1]; show _ ≤ 16777216; lia
          · unfold cutT; rw [if_pos (of_decide_eq_true hc)]
          · exact Ex.nil (rest _ rfl rfl rfl rfl rfl rfl rfl)
        · refine Ex.nil (rest _ ?_ rfl rfl rfl rfl rfl rfl)
          unfold cutT; rw [if_neg (of_decide_eq_false hc)]; rfl
      intro ρ r1 r2 r3 r4 r5 r6 r7
      have hbl : (catS [intSpecTextOf "6d" (m.pc : Int), "  ", Txt.ljust m.op ((5 : Nat) : Int), " ", Txt.rjust (numText m.arg) ((6 : Nat) : Int), "  [", cutT w (cellsT m.st), "]"]).length ≤ 300000 ∧ (([intSpecTextOf "6d" (m.pc : Int), "  ", Txt.ljust m.op ((5 : Nat) : Int), " ", Txt.rjust (numText m.arg) ((6 : Nat) : Int), "  [", cutT w (cellsT m.st), "]"] : List Str).map (·.length)).sum ≤ 300000 := by
        rw [catS_len, and_self]
        have l1 := ljust_len m.op 5
        have l2 := rjust_len (numText m.arg) 6
        have e1 : (Str.ofString "  ").length = 2 := rfl
        have e2 : (Str.ofString " ").length = 1 := rfl
        have e3 : (Str.ofString "  [").length = 3 := rfl
        have e4 : (Str.ofString "]").length = 1 := rfl
        simp only [List.map_cons, List.map_nil, List.sum_cons, List.sum_nil, e1, e2, e3, e4]
        clear hpc
        lia
      have hrow : (ms.take (i + 1)).map (rowM w) = (ms.take i).map (rowM w) ++ [rowM w m] := by rw [List.take_add_one, he]; simp
      have hsz : (strD ((ms.take i).map (rowM w))).length ≤ sizeLine := by
        simp [strD, sizeLine]; lia
      refine Ex.cons (Ex1.assign (d := .str (catS [intSpecTextOf "6d" (m.pc : Int), "  ", Txt.ljust m.op ((5 : Nat) : Int), " ", Txt.rjust (numText m.arg) ((6 : Nat) : Int), "  [", cutT w (cellsT m.st), "]"])) (.inl rfl) (fun X => ?_) ?_)
      · refine Ev.fstr (.cons (Ev.fvs (Ev.name r4) (Ev.fstr1 Ev.str) (fmt_int hpc rfl (by decide))) (.cons Ev.str (.cons (Ev.fvs (Ev.name r5) (Ev.fstr1 Ev.str) (fmt_strL (w := 5) (by decide) (Nat.le_trans hol (by decide)) rfl rfl rfl (by decide))) (.cons Ev.str (.cons (Ev.fvs (Ev.call harg rfl (.cons (Ev.name r6) .nil)) (Ev.fstr1 Ev.str) (fmt_strR (w := 6) (by decide) (Nat.le_trans harl (by decide)) rfl rfl rfl (by decide))) (.cons Ev.str (.cons (Ev.fv (Ev.name r1) (fmt_str0 (Nat.le_trans hcut (by decide)))) (.cons Ev.str .nil)))))))) (Nat.le_trans hbl.2 (by decide))
      refine Ex.cons (Ex1.ite (fun X => Tr.val (Ev.name (by rw [List.lookup_cons]; exact r7)) (tr_str (szn (Nat.le_trans hnl (by decide))))) (fun hc => ?_) (fun hc => ?_))
      · have hz2 : ((["  # ", m.note] : List Str).map (·.length)).sum ≤ 1010 := by
          have e1 : (Str.ofString "  # ").length = 4 := rfl
          simp [e1]; lia
        refine Ex.cons (Ex1.aug (.inl rfl) rfl (fun X => Ev.fstr (xs := ["  # ", m.note]) (.cons Ev.str (.cons (Ev.fv (Ev.name (by rw [List.lookup_cons]; exact r7)) (fmt_str0 (szn (Nat.le_trans hnl (by decide))))) .nil)) (Nat.le_trans hz2 (by decide))) (op_iaddS ?_) ?_)
        · rw [catS_len ["  # ", m.note]]
          have := hbl.1
          show _ ≤ 16777216
          lia
        refine Ex.nil ?_
        refine Ex.cons (Ex1.mut (x := "shown") (ds := strD ((ms.take i).map (rowM w))) (ds' := strD ((ms.take (i + 1)).map (rowM w))) (by rw [List.lookup_cons, List.lookup_cons]; exact r2) F.slot_list_append F.type_list_append (args := [.str (rowM w m)]) (fun X => .cons (Ev.congr (Ev.name rfl) ?_) .nil) ?_ ?_)
        · unfold rowM; rw [if_pos hc]
        · rw [hrow, strD_snoc]
          exact mut_append hsz
        · exact Ex.nil (.cons rfl (.cons (by rw [List.lookup_cons, List.lookup_cons, List.lookup_cons]; exact r3) .nil))
      · refine Ex.nil ?_
        refine Ex.cons (Ex1.mut (x := "shown") (ds := strD ((ms.take i).map (rowM w))) (ds' := strD ((ms.take (i + 1)).map (rowM w))) (by rw [List.lookup_cons]; exact r2) F.slot_list_append F.type_list_append (args := [.str (rowM w m)]) (fun X => .cons (Ev.congr (Ev.name rfl) ?_) .nil) ?_ ?_)
        · unfold rowM; rw [if_neg (by rw [hc]; exact Bool.false_ne_true)]
        · rw [hrow, strD_snoc]
          exact mut_append hsz
        · exact Ex.nil (.cons rfl (.cons (by rw [List.lookup_cons, List.lookup_cons]; exact r3) .nil))
  · refine Ex.freeze (x := "shown") rfl ?_
    refine Ex.cons (Ex1.ret (d := .list (strD (ms.map (rowM w)))) (fun X => Ev.congr (Ev.name rfl) ?_) rfl)
    rw [List.length_map, List.take_length]

theorem f_render_machine2 {T : Addr} {t0 : Tok} {m : Nat} (hK : FnK g 11 (.ref T) cd) (hT0 : (T, tupObj [.int 60 t0] m) ∈ g.W.K) {d d1 d2 : PyData}
    (h : ∀ pm doc L a X₀, Ex g n X₀ (envAt 11 pm cd doc (.ref T) L a) (fzs ["events", "width"] [d1, d2]) (fBody (fnAt 11)) (fun f _ => f = .ret d)) : FnC g (n + 1) "render_machine" [d1, d2] d := by
  refine mkFn (ps := ["events", "width"]) (dvs := []) (dds := []) hK rfl (fun pm doc s vs hw h => ?_) Kds.nil (by decide) (fun L p hp => .inl ?_) fun pm doc L a X₀ => h pm doc L a X₀
  · obtain ⟨v1, v2, rfl⟩ := len2 h
    exact .of_defaults rfl (hw.k _ hT0) rfl rfl rfl
  · rcases List.mem_cons.mp hp with rfl | hp
    · rfl
    rw [List.mem_singleton.mp hp]; rfl
theorem f_render_machine1 {T : Addr} {t0 : Tok} {m : Nat} (hK : FnK g 11 (.ref T) cd) (hT0 : (T, tupObj [.int 60 t0] m) ∈ g.W.K) {d d1 : PyData}
    (h : ∀ pm doc L a X₀, Ex g n X₀ (envAt 11 pm cd doc (.ref T) L a) (fzs ["events", "width"] [d1, .int 60]) (fBody (fnAt 11)) (fun f _ => f = .ret d)) : FnC g (n + 1) "render_machine" [d1] d := by
  refine mkFn (ps := ["events", "width"]) (dvs := [.int 60 t0]) (dds := [.int 60]) hK rfl (fun pm doc s vs hw h => ?_) (.cons (Kd.int 60 t0) .nil) (by decide) (fun L p hp => .inl ?_) fun pm doc L a X₀ => h pm doc L a X₀
  · obtain ⟨v1, rfl⟩ := len1 h
    exact .of_defaults rfl (hw.k _ hT0) rfl rfl rfl
  · rcases List.mem_cons.mp hp with rfl | hp
    · rfl
    rw [List.mem_singleton.mp hp]; rfl
end
end Mine
set_option Elab.async false
set_option maxRecDepth 100000
set_option linter.unusedVariables false
set_option tactic.hygienic false
namespace Mine
open PySem PyProof.Rows Builtin.Float

noncomputable def assignsT (names : List Str) (note : Str) : Bool := (names.map fun nm => Txt.startswith note (nm ++ " = ")).any id
noncomputable def keepsT {α : Type} (noteOf : α → Str) (names : List Str) (keep : Bool) (len : Nat) (p : α × Nat) : Bool := assignsT names (noteOf p.1) || (keep && ((p.2 : Int) == (len : Int) - 1))
noncomputable def watchedT {α : Type} (noteOf : α → Str) (names : List Str) (keep : Bool) (es : List α) : List α := (es.zipIdx.filter (keepsT noteOf names keep es.length)).map (·.1)
noncomputable def getI (kvs : List (Int × Int)) (i : Int) : PyData := match kvs.lookup i with | some v => .int v | none => .none

section
variable {g : G} {n : Nat} {X₀ X : List Addr} {env : Env} {ρ : Rho} {a b : Expr} {p q : Bool} {pos : Pos}
theorem Tr.or2 (ha : Tr g n X₀ X env ρ a p) (hb : p = false → Tr g n X₀ X env ρ b q) : Tr g n X₀ X env ρ (.BoolOp .Or [a, b] pos) (p || q) := by
  cases p with
  | true => exact Tr.all (.stopO ha)
  | false =>
    cases q with
    | true => exact Tr.all (.goO ha (.stopO (hb rfl)))
    | false => exact Tr.all (.goO ha (.goO (hb rfl) (.nil .Or)))
theorem Tr.and2 (ha : Tr g n X₀ X env ρ a p) (hb : p = true → Tr g n X₀ X env ρ b q) : Tr g n X₀ X env ρ (.BoolOp .And [a, b] pos) (p && q) := by
  cases p with
  | false => exact Tr.all (.stopA ha)
  | true =>
    cases q with
    | false => exact Tr.all (.goA ha (.stopA (hb rfl)))
    | true => exact Tr.all (.goA ha (.goA (hb rfl) (.nil .And)))
end

section
variable {g : G} {n : Nat} {cd df : Value}

theorem f_watched {α : Type} {es : List α} {inj : α → PyData} {noteOf : α → Str} {names : List Str} {keep : Bool} (hK : FnK g 12 .none cd) (B : Blt g) (hC : ∃ c P, cd = .ref c ∧ (c, P) ∈ g.W.C) (hes : es.length ≤ 1000) (hnm : names.length ≤ 1000 ∧ ∀ m ∈ names, m.length ≤ 1000)
    (hin : ∀ e ∈ es, ∃ ds k, inj e = .tuple ds ∧ seqIndex? (-1) ds.length = some k ∧ ds[k]? = some (.str (noteOf e))) :
    FnC g (n + 7) "watched" [.list (es.map inj), .list (strD names), .bool keep] (.list ((watchedT noteOf names keep es).map inj)) := by
  refine mkFn (ps := ["events", "names", "keep_last"]) (dvs := []) (dds := []) hK rfl (fun pm doc s vs _ h => ?_) Kds.nil (by decide) (fun L p hp => .inl ?_) fun pm doc L a X₀ => ?_
  · obtain ⟨v1, v2, v3, rfl⟩ := len3 h
    exact .of_eq rfl
  · rcases List.mem_cons.mp hp with rfl | hp
    · rfl
    rcases List.mem_cons.mp hp with rfl | hp
    · rfl
    rw [List.mem_singleton.mp hp]; rfl
  simp only [envAt, callEnvC, fdOf, Calls.docDef, newEnv]
  conv in (fBody (fnAt 12)) => whnf
  conv in (fScope (fnAt 12)) => whnf
  conv in (cellsFrom _ _ _) => whnf
  refine Ex.cons (Ex1.assignL (ds := []) (.inl rfl) (fun X => EvL.list .nil (by decide)) ?_)
  refine Ex.cons (Ex1.for (ds := enumD 0 (es.map inj)) (R := fun i => [("kept", .own ((((es.zipIdx).take i).filter (keepsT noteOf names keep es.length)).map fun p => inj p.1)), ("events", .fz (.list (es.map inj))), ("names", .fz (.list (strD names))), ("keep_last", .fz (.bool keep))]) (fun X => EvI.callT rfl B.enumerate.1 B.enumerate.2 (.cons (Ev.name rfl) .nil) ci_enum) (.cons rfl (.cons rfl (.cons rfl (.cons rfl .nil)))) (fun i d hd => ?_) ?_)
  · obtain ⟨d', hd', rfl⟩ := enumD_get hd
    rw [List.getElem?_map] at hd'
    cases he : es[i]? with
    | none => rw [he] at hd'; cases hd'
    | some e =>
      rw [he] at hd'; cases hd'
      obtain ⟨ds, k, h1, h2, h3⟩ := hin e (List.mem_of_getElem? he)
      obtain ⟨c, P, hcc, hcP⟩ := hC
      refine ⟨_, fun X₁ => Asg.tuple (.cons (Asg.name (.inl rfl)) (.cons (Asg.name (.inl rfl)) .nil)), fun X₁ => ?_⟩
      refine Ex.cons (Ex1.assign (d := .str (noteOf e)) (.inr ⟨rfl, rfl, rfl⟩) (fun X => Ev.idxT (i := -1) (Ev.congr (Ev.name rfl) h1) (Ev.neg Ev.int) (by decide) (by decide) h2 h3) ?_)
      refine Ex.cons (Ex1.assign (d := .bool (assignsT names (noteOf e))) (.inl rfl) (fun X => ?_) ?_)
      · refine Ev.anyG (n := n) (bs := names.map fun nm => Txt.startswith (noteOf e) (nm ++ " = ")) (ds := strD names) (ρc := [("note", .fz (.str (noteOf e)))]) (cl := [("note", L + 1)]) rfl B.any.1 B.any.2 (EvI.list (Ev.name rfl)) ⟨B.bf, ⟨c, P, hcc, hcP⟩, rfl, rfl, fun x c h => h, rfl, rfl, by decide, fun x sl h => ?_, by simp [strD], fun j d d' q1 q2 => ?_⟩
        · rcases lookup_own h with ⟨rfl, rfl⟩ | ⟨_, h⟩
          · exact ⟨_, L + 1, rfl, rfl, rfl, rfl, rfl, rfl⟩
          · cases h
        · rw [strD, List.getElem?_map] at q1
          rw [List.getElem?_map, List.getElem?_map] at q2
          cases hv : names[j]? with
          | none => rw [hv] at q1; cases q1
          | some nm =>
            rw [hv] at q1 q2
            cases q1; cases q2
            have hml := hnm.2 nm (List.mem_of_getElem? hv)
            refine ⟨trivial, [("name", .fz (.str nm)), ("note", .fz (.str (noteOf e)))], fun C code X₁ => Asg.name (.inl rfl), fun C code X₁ X => ?_⟩
            refine Ev.meth (a := .str (noteOf e)) (Ev.name rfl) F.plainAttrs_str F.slot_str_startswith F.type_str_startswith (.cons (Ev.op (Ev.name rfl) Ev.str (op_addS ?_)) .nil) c_startswith
            have e1 : (Str.ofString " = ").length = 3 := rfl
            rw [e1]; show _ ≤ 16777216; lia
      have hstep : (((es.zipIdx).take (i + 1)).filter (keepsT noteOf names keep es.length)).map (fun p => inj p.1) = (((es.zipIdx).take i).filter (keepsT noteOf names keep es.length)).map (fun p => inj p.1) ++ (if keepsT noteOf names keep es.length (e, i) then [inj e] else []) := by
        have : (es.zipIdx)[i]? = some (e, i) := by rw [List.getElem?_zipIdx, he]; simp
        rw [List.take_add_one, this]
        cases hq : keepsT noteOf names keep es.length (e, i) <;> simp [hq]
      have hsz : ((((es.zipIdx).take i).filter (keepsT noteOf names keep es.length)).map fun p => inj p.1).length ≤ sizeLine := by
        rw [List.length_map]
        refine Nat.le_trans (List.length_filter_le _ _) (Nat.le_trans (by rw [List.length_take]; exact Nat.min_le_right _ _) ?_)
        rw [List.length_zipIdx]; exact szn (Nat.le_trans hes (by decide))
      refine Ex.cons (Ex1.ite (c := keepsT noteOf names keep es.length (e, i)) (fun X => ?_) (fun hc => ?_) (fun hc => ?_))
      · refine Tr.or2 (Tr.val (Ev.name rfl) tr_bool) fun _ => Tr.and2 (Tr.val (Ev.name rfl) tr_bool) fun _ => ?_
        exact Tr.cp (Ev.name rfl) (Ev.op (Ev.congr (Ev.callB rfl B.len.1 B.len.2 (.cons (Ev.name rfl) .nil) (c_len_list (by rw [List.length_map]; exact szn (Nat.le_trans hes (by decide))))) (by rw [List.length_map])) Ev.int op_sub) cmp_eq
      · rw [hc] at hstep
        refine Ex.cons (Ex1.mut (x := "kept") (ds' := (((es.zipIdx).take (i + 1)).filter (keepsT noteOf names keep es.length)).map (fun p => inj p.1)) rfl F.slot_list_append F.type_list_append (args := [inj e]) (fun X => .cons (Ev.name rfl) .nil) ?_ ?_)
        · rw [hstep]; exact mut_append hsz
        · exact Ex.nil (Ex.nil (.cons rfl (.cons rfl (.cons rfl (.cons rfl .nil)))))
      · rw [hc] at hstep
        refine Ex.nil (Ex.nil (.cons ?_ (.cons rfl (.cons rfl (.cons rfl .nil)))))
        rw [hstep]
        simp only [Bool.false_eq_true, if_false, List.append_nil]
        rfl
  · refine Ex.freeze (x := "kept") rfl ?_
    refine Ex.cons (Ex1.ret (d := .list ((watchedT noteOf names keep es).map inj)) (fun X => Ev.congr (Ev.name rfl) ?_) rfl)
    rw [enumD_len, List.length_map, List.take_of_length_le (by rw [List.length_zipIdx]; exact Nat.le_refl _)]
    unfold watchedT
    rw [List.map_map]; rfl

theorem f_by_line (hK : FnK g 13 .none cd) (B : Blt g) {x : Str} {ws cs ts : List Int} (hS : FnC g n "source_lines" [.str x] (.list (intD ws))) (hnd : ws.Nodup) (hws : ws.length ≤ 1000) (hx : x.length ≤ 65536) (hl : (Txt.split x "\n").length ≤ 65536) {ps : List Str} {last : Str} (hps : Txt.split x "\n" = ps ++ [last]) :
    FnC g (n + 1) "by_line" [.str x, .list (intD cs), .list (intD ts)] (.list (((if last == "" then ps else ps ++ [last]).zipIdx 1).map fun p => .tuple [.int (p.2 : Int), .str p.1, getI (ws.zip cs) (p.2 : Int), getI (ws.zip ts) (p.2 : Int)])) := by
  refine mkFn (ps := ["src", "counts", "times"]) (dvs := []) (dds := []) hK rfl (fun pm doc s vs _ h => ?_) Kds.nil (by decide) (fun L p hp => .inl ?_) fun pm doc L a X₀ => ?_
  · obtain ⟨v1, v2, v3, rfl⟩ := len3 h
    exact .of_eq rfl
  · rcases List.mem_cons.mp hp with rfl | hp
    · rfl
    rcases List.mem_cons.mp hp with rfl | hp
    · rfl
    rw [List.mem_singleton.mp hp]; rfl
  simp only [envAt, callEnvC, fdOf, Calls.docDef, newEnv]
  conv in (fBody (fnAt 13)) => whnf
  conv in (fScope (fnAt 13)) => whnf
  conv in (cellsFrom _ _ _) => whnf
  refine Ex.cons (Ex1.assign (d := .list (intD ws)) (.inl rfl) (fun X => Ev.call hS rfl (.cons (Ev.name rfl) .nil)) ?_)
  refine Ex.cons (Ex1.assign (d := dictD (ws.zip cs)) (.inr ⟨rfl, rfl, rfl⟩) (fun X => Ev.dictzip rfl B.dict.1 B.dict.2 rfl B.zip.1 B.zip.2 (.cons (Ev.name rfl) (.cons (Ev.name rfl) .nil)) hnd (szn (Nat.le_trans hws (by decide)))) ?_)
  refine Ex.cons (Ex1.assign (d := dictD (ws.zip ts)) (.inr ⟨rfl, rfl, rfl⟩) (fun X => Ev.dictzip rfl B.dict.1 B.dict.2 rfl B.zip.1 B.zip.2 (.cons (Ev.name rfl) (.cons (Ev.name rfl) .nil)) hnd (szn (Nat.le_trans hws (by decide)))) ?_)
  refine Ex.cons (Ex1.assignL (ds := strD (ps ++ [last])) (.inl rfl) (fun X => EvL.congr (EvL.meth (a := .str x) (Ev.name rfl) F.plainAttrs_str F.slot_str_split F.type_str_split (.cons Ev.str .nil) (c_split rfl (szn hx) (szn hl))) (by rw [hps])) ?_)
  have hpl : (ps ++ [last]).length ≤ 65536 := hps ▸ hl
  have hsl : (strD (ps ++ [last])).length ≤ sizeLine := by rw [strD, List.length_map]; exact szn hpl
  suffices rest : ∀ (us : List Str), us.length ≤ 65536 → us = (if last == "" then ps else ps ++ [last]) → ∀ ρ : Rho, List.lookup ("texts" : Str) ρ = some (VSlot.own (strD us)) → List.lookup ("count_at" : Str) ρ = some (VSlot.fz (dictD (ws.zip cs))) → List.lookup ("time_at" : Str) ρ = some (VSlot.fz (dictD (ws.zip ts))) → Ex g n X₀ _ ρ _ _ by
    refine Ex.cons (Ex1.ite (c := last == "") (fun X => Tr.thaw (x := "texts") rfl fun X => Tr.cp (Ev.idxLn (i := -1) (d := .str last) (Ev.name rfl) (Ev.neg Ev.int) (by decide) ?_ hsl ?_) Ev.str cmp_eqS) (fun hc => ?_) (fun hc => ?_))
    · simp [strD]; lia
    · rw [strD_snoc]
      have e : ((-1 : Int) + ((strD ps ++ [PyData.str last]).length : Nat)).toNat = (strD ps).length := by simp; lia
      rw [e, List.getElem?_append_right (Nat.le_refl _)]; simp
    · refine Ex.cons (Ex1.mut (x := "texts") (ds := strD (ps ++ [last])) (ds' := strD ps) rfl F.slot_list_pop F.type_list_pop (args := []) (fun X => .nil) ?_ ?_)
      · have e : strD ps = (strD (ps ++ [last])).dropLast := by rw [strD_snoc, List.dropLast_concat]
        rw [e]
        exact mut_pop hsl (d := .str last) (by rw [strD_snoc, List.getLast?_concat]) trivial
      · refine Ex.nil (rest ps ?_ (by rw [if_pos hc]) _ rfl rfl rfl)
        simp at hpl; lia
    · exact Ex.nil (rest (ps ++ [last]) hpl (by rw [if_neg (by rw [hc]; exact Bool.false_ne_true)]) _ rfl rfl rfl)
  intro us hul hue ρ r1 r2 r3
  rw [← hue]
  refine Ex.freeze (x := "texts") r1 ?_
  refine Ex.cons (Ex1.ret (d := .list ((us.zipIdx 1).map fun p => .tuple [.int (p.2 : Int), .str p.1, getI (ws.zip cs) (p.2 : Int), getI (ws.zip ts) (p.2 : Int)])) (fun X => EvL.ev ?_) rfl)
  refine EvL.congr (EvL.compMap (xs := us.zipIdx 1) (inj := fun p => .tuple [.int (p.2 : Int), .str p.1]) (F := fun p => .tuple [.int (p.2 : Int), .str p.1, getI (ws.zip cs) (p.2 : Int), getI (ws.zip ts) (p.2 : Int)]) (q := fun _ => true) (ρc := [("count_at", .fz (dictD (ws.zip cs))), ("time_at", .fz (dictD (ws.zip ts)))]) (cl := [("time_at", L + 2), ("count_at", L + 1)]) ?_ (CompOk.map rfl (fun x c h => ?_) rfl (by decide) (by decide) (FreeOk.cons (by rw [List.lookup_cons]; exact r2) rfl rfl rfl rfl (FreeOk.cons (by rw [List.lookup_cons]; exact r3) rfl rfl rfl rfl FreeOk.nil)) ?_ fun p hp => ?_)) (map_tt _ _)
  · refine EvI.congr (EvI.callT rfl B.enumerate.1 B.enumerate.2 (.cons (Ev.name rfl) (.cons Ev.int .nil)) ci_enum1) ?_
    rw [strD, enumD_map]
  · exact h
  · rw [List.length_zipIdx]; exact szn hul
  · refine ⟨[("text", .fz (.str p.1)), ("number", .fz (.int (p.2 : Int))), ("count_at", .fz (dictD (ws.zip cs))), ("time_at", .fz (dictD (ws.zip ts)))], .cons rfl (.cons rfl .nil), fun C X₁ => Asg.tuple (.cons (Asg.name (.inl rfl)) (.cons (Asg.name (.inl rfl)) .nil)), fun C X₁ X => rfl, fun _ C X₁ X => ?_⟩
    exact Ev.tuple (.cons (Ev.name rfl) (.cons (Ev.name rfl) (.cons (Ev.meth (a := dictD (ws.zip cs)) (Ev.name rfl) F.plainAttrs_dict F.slot_dict_get F.type_dict_get (.cons (Ev.name rfl) .nil) c_get) (.cons (Ev.meth (a := dictD (ws.zip ts)) (Ev.name rfl) F.plainAttrs_dict F.slot_dict_get F.type_dict_get (.cons (Ev.name rfl) .nil) c_get) .nil)))) szl
end
end Mine
set_option Elab.async false
set_option maxRecDepth 100000
set_option linter.unusedVariables false
set_option tactic.hygienic false
namespace Mine
open PySem PyProof.Rows Builtin.Float

/-- a residue, as an index -/
noncomputable def md (x : Int) (k : Nat) : Nat := (x.fmod (k : Int)).toNat
theorem md_eq (x : Int) {k : Nat} (hk : 0 < k) : x.fmod (k : Int) = (md x k : Int) := by
  unfold md
  have := Int.fmod_nonneg_of_pos x (b := (k : Int)) (by omega)
  omega
theorem md_lt (x : Int) {k : Nat} (hk : 0 < k) : md x k < k := by
  have h1 := Int.fmod_lt_of_pos x (b := (k : Int)) (by omega)
  have h2 := md_eq x hk
  omega
theorem seqIndex_nat {i n : Nat} (h : i < n) : seqIndex? (i : Int) n = some i := by
  unfold seqIndex?
  have h1 : ¬ (i : Int) < 0 := by lia
  simp [h1]; lia

noncomputable def KINDS : List Str := ["set", "print", "while", "if", "else", "end"]
noncomputable def FIRST : List (List (Str × Str)) := [[("name", "a")], [("name", "ab")], [("num", "7")], [("kw", "not"), ("name", "a")], [("op", "-"), ("num", "0")]]
noncomputable def FIRSTT : List Str := ["a", "ab", "7", "not a", "- 0"]
noncomputable def GAPS : List (List Str) := [[], [""], ["   "]]
noncomputable def TAILS : List (List Str) := [[], [""], [" "], ["", ""], ["  ", ""]]
noncomputable def NOTES : List Str := ["", "a = 5", "ab = -2", "prints 7", "b = 0", "break: a = 1", "0: skip"]
noncomputable def NAMES : List (List Str) := [[], ["a"], ["ab", "b"], ["b", "a"]]
noncomputable def OFFS : List Int := [0, 7, 99998, -4]
noncomputable def OPS : List Str := ["push", "store", "+", "neg", "jz"]
noncomputable def SCALES : List Int := [1, 1000003, 1000000000000000000]
noncomputable def MORE : List (Str × Str) := [("op", "+"), ("num", "1000000")]

structure Dat (g : G) : Prop where
  kinds : Gd g "_law_KINDS" (.tuple (strD KINDS))
  first : Gd g "_law_FIRST" (.tuple (FIRST.map fun ts => .list (ts.map tokD)))
  firstT : Gd g "_law_FIRST_TEXT" (.tuple (strD FIRSTT))
  gaps : Gd g "_law_GAPS" (.tuple (GAPS.map fun l => .list (strD l)))
  tails : Gd g "_law_TAILS" (.tuple (TAILS.map fun l => .list (strD l)))
  notes : Gd g "_law_NOTES" (.tuple (strD NOTES))
  names : Gd g "_law_NAMES" (.tuple (NAMES.map fun l => .list (strD l)))
  offs : Gd g "_law_OFFSETS" (.tuple (intD OFFS))
  ops : Gd g "_law_OPS" (.tuple (strD OPS))
  scales : Gd g "_law_SCALES" (.tuple (intD SCALES))

section
variable {g : G} {n : Nat} {X₀ X : List Addr} {env : Env} {ρ : Rho} {e value slice : Expr} {pos p : Pos}
/-- x % k, an index -/
theorem Ev.md {x : Int} {k : Nat} {i : Int} (h : Ev g n X₀ X env ρ e (.int x)) (h2 : Ev g n X₀ X env ρ value (.int i)) (hi : i = (k : Int)) (hk : 0 < k) : Ev g n X₀ X env ρ (.BinOp e .Mod value pos) (.int (Mine.md x k : Int)) := by
  subst hi
  exact Ev.congr (Ev.op h h2 (op_mod (by lia))) (by rw [md_eq x hk])
/-- an item of a written tuple -/
theorem Ev.tab {ds : List PyData} {d : PyData} {i : Nat} (hv : Ev g n X₀ X env ρ value (.tuple ds)) (hi : Ev g n X₀ X env ρ slice (.int (i : Int))) (hx : ds[i]? = some d) (hl : ds.length ≤ 1000)
    (hs : ∀ o i, subscripted slice false o i = operate [o, i] (getItem o i) := by intros; rfl) : Ev g n X₀ X env ρ (.Subscript value slice pos) d := by
  have h1 := (List.getElem?_eq_some_iff.mp hx).1
  exact Ev.idxT hv hi (by lia) (by lia) (seqIndex_nat h1) hx hs
theorem getD_map {α : Type} {F : α → PyData} {l : List α} {i : Nat} {a : α} (h : i < l.length) : (l.map F)[i]? = some (F (l.getD i a)) := by
  rw [List.getElem?_map, List.getElem?_eq_getElem h]; simp [h]
end

noncomputable def kindOf' (x : Int) : Str := KINDS.getD (md x 6) ""
noncomputable def exprOf (y : Int) : List (Str × Str) := FIRST.getD (md y 5) [] ++ (List.replicate (md y 6) MORE).flatten
noncomputable def wordsOf (y : Int) : Str := FIRSTT.getD (md y 5) "" ++ Txt.mul " + 1000000" (md y 6 : Nat)
noncomputable def progPS (q : Int × Int) : PS := if kindOf' q.1 == "set" then ⟨kindOf' q.1, "n", exprOf q.2⟩ else if kindOf' q.1 == "else" || kindOf' q.1 == "end" then ⟨kindOf' q.1, "", []⟩ else ⟨kindOf' q.1, "", exprOf q.2⟩
noncomputable def progT (q : Int × Int) : Str := if kindOf' q.1 == "set" then ("set n = " : Str) ++ wordsOf q.2 else if kindOf' q.1 == "else" || kindOf' q.1 == "end" then kindOf' q.1 else (kindOf' q.1 ++ (" " : Str)) ++ wordsOf q.2
noncomputable def pairD (q : Int × Int) : PyData := .tuple [.int q.1, .int q.2]

theorem mulok (i : Nat) (h : i < 6) : MulOk " + 1000000" (i : Int) := by
  match i, h with
  | 0, _ | 1, _ | 2, _ | 3, _ | 4, _ | 5, _ => exact ⟨by decide, by decide, by decide⟩
  | n + 6, h => exact absurd h (Nat.not_lt_of_le (Nat.le_add_left 6 n))
theorem words_len (y : Int) : (wordsOf y).length ≤ 100 := by
  have h1 := md_lt y (k := 5) (by decide)
  have h2 := md_lt y (k := 6) (by decide)
  unfold wordsOf
  generalize md y 5 = i at *
  generalize md y 6 = j at *
  have a : ∀ i < 5, (FIRSTT.getD i "").length ≤ 5 := by decide
  have b : ∀ j < 6, (Txt.mul " + 1000000" (j : Nat)).length ≤ 50 := by decide +kernel
  rw [strLen_append]
  have := a i h1
  have := b j h2
  lia
theorem kind_len (x : Int) : (kindOf' x).length ≤ 5 := by
  have h1 := md_lt x (k := 6) (by decide)
  unfold kindOf'
  generalize md x 6 = i at *
  have a : ∀ i < 6, (KINDS.getD i "").length ≤ 5 := by decide
  exact a i h1
theorem expr_len (y : Int) : (exprOf y).length ≤ 20 := by
  have h1 := md_lt y (k := 5) (by decide)
  have h2 := md_lt y (k := 6) (by decide)
  unfold exprOf
  generalize md y 5 = i at *
  generalize md y 6 = j at *
  have a : ∀ i < 5, (FIRST.getD i []).length ≤ 2 := by decide
  have b : ∀ j < 6, (List.replicate j MORE).flatten.length ≤ 12 := by decide
  rw [List.length_append]
  have := a i h1
  have := b j h2
  lia

section
variable {g : G} {n : Nat} {cd df : Value}
theorem f_program (hK : FnK g 25 .none cd) (D : Dat g) {qs : List (Int × Int)} (hq : qs.length ≤ 1000) : FnC g (n + 1) "_law_program" [.list (qs.map pairD)] (.tuple [.list ((qs.map progPS).map psD), .list (strD (qs.map progT))]) := by
  refine mkFn (ps := ["pairs"]) (dvs := []) (dds := []) hK rfl (fun pm doc s vs _ h => ?_) Kds.nil (by decide) (fun L p hp => .inl (by rw [List.mem_singleton.mp hp]; rfl)) fun pm doc L a X₀ => ?_
  · obtain ⟨v, rfl⟩ := len1 h
    exact .of_eq rfl
  simp only [envAt, callEnvC, fdOf, Calls.docDef, newEnv]
  conv in (fBody (fnAt 25)) => whnf
  conv in (fScope (fnAt 25)) => whnf
  conv in (cellsFrom _ _ _) => whnf
  refine Ex.cons (Ex1.assignL (ds := []) (.inl rfl) (fun X => EvL.list .nil (by decide)) ?_)
  refine Ex.cons (Ex1.assignL (ds := []) (.inl rfl) (fun X => EvL.list .nil (by decide)) ?_)
  refine Ex.cons (Ex1.for (ds := qs.map pairD) (R := fun i => [("made", .own (((qs.take i).map progPS).map psD)), ("texts", .own (strD ((qs.take i).map progT)))]) (fun X => EvI.list (Ev.name rfl)) (.cons rfl (.cons rfl .nil)) (fun i d hd => ?_) ?_)
  · rw [List.getElem?_map] at hd
    cases he : qs[i]? with
    | none => rw [he] at hd; cases hd
    | some q =>
      rw [he] at hd; cases hd
      refine ⟨_, fun X₁ => Asg.tuple (.cons (Asg.name (.inl rfl)) (.cons (Asg.name (.inl rfl)) .nil)), fun X₁ => ?_⟩
      refine Ex.cons (Ex1.assign (d := .str (kindOf' q.1)) (.inl rfl) (fun X => Ev.tab (Ev.gd D.kinds) (Ev.md (k := 6) (Ev.name rfl) Ev.int rfl (by decide)) (getD_map (md_lt _ (by decide))) (by decide)) ?_)
      refine Ex.cons (Ex1.assign (d := .list ((exprOf q.2).map tokD)) (.inl rfl) (fun X => EvL.ev (EvL.congr (EvL.add (ds := (FIRST.getD (md q.2 5) []).map tokD) (ds' := ((List.replicate (md q.2 6) MORE).flatten).map tokD) (Ev.tab (Ev.gd D.first) (Ev.md (k := 5) (Ev.name rfl) Ev.int rfl (by decide)) (getD_map (md_lt _ (by decide))) (by decide)) (EvL.ev (EvL.congr (EvL.mul (k := md q.2 6) (ds := MORE.map tokD) (EvL.ev (EvL.list (.cons (Ev.tuple (ds := [.str "op", .str "+"]) (.cons Ev.str (.cons Ev.str .nil)) szl) (.cons (Ev.tuple (ds := [.str "num", .str "1000000"]) (.cons Ev.str (.cons Ev.str .nil)) szl) .nil)) (by decide))) (Ev.md (k := 6) (Ev.name rfl) Ev.int rfl (by decide)) ?_ ?_) ?_)) ?_) ?_)) ?_)
      · have := md_lt q.2 (k := 6) (by decide); lia
      · have := md_lt q.2 (k := 6) (by decide)
        show 2 * _ ≤ _
        lia
      · rw [List.map_flatten, List.map_replicate]
      · have := expr_len q.2
        rw [exprOf, List.length_append] at this
        rw [List.length_map, List.length_map]
        show _ ≤ 16777216
        lia
      · rw [exprOf, List.map_append]
      refine Ex.cons (Ex1.assign (d := .str (wordsOf q.2)) (.inl rfl) (fun X => Ev.op (Ev.tab (Ev.gd D.firstT) (Ev.md (k := 5) (Ev.name rfl) Ev.int rfl (by decide)) (getD_map (md_lt _ (by decide))) (by decide)) (Ev.op Ev.str (Ev.md (k := 6) (Ev.name rfl) Ev.int rfl (by decide)) (op_mulS (mulok _ (md_lt _ (by decide))))) (op_addS ?_)) ?_)
      · have := words_len q.2
        rw [wordsOf, strLen_append] at this
        show _ ≤ 16777216
        lia
      have h1 : (qs.take (i + 1)).map progPS = (qs.take i).map progPS ++ [progPS q] := by rw [List.take_add_one, he]; simp
      have h2 : (qs.take (i + 1)).map progT = (qs.take i).map progT ++ [progT q] := by rw [List.take_add_one, he]; simp
      have z1 : (((qs.take i).map progPS).map psD).length ≤ sizeLine := by simp [sizeLine]; lia
      have z2 : (strD ((qs.take i).map progT)).length ≤ sizeLine := by simp [strD, sizeLine]; lia
      have hw := words_len q.2
      have hkl := kind_len q.1
      have fin : ∀ (ρ : Rho), List.lookup ("made" : Str) ρ = some (VSlot.own (((qs.take (i + 1)).map progPS).map psD)) → List.lookup ("texts" : Str) ρ = some (VSlot.own (strD ((qs.take (i + 1)).map progT))) → Sub [("made", .own (((qs.take (i + 1)).map progPS).map psD)), ("texts", .own (strD ((qs.take (i + 1)).map progT)))] ρ := fun ρ a b => .cons a (.cons b .nil)
      refine Ex.cons (Ex1.ite (fun X => Tr.cp (Ev.name rfl) Ev.str cmp_eqS) (fun hc => ?_) (fun hc => ?_))
      · have e1 : progPS q = ⟨kindOf' q.1, "n", exprOf q.2⟩ := by unfold progPS; rw [if_pos hc]
        have e2 : progT q = ("set n = " : Str) ++ wordsOf q.2 := by unfold progT; rw [if_pos hc]
        refine Ex.cons (Ex1.mut (x := "made") (ds' := ((qs.take (i + 1)).map progPS).map psD) rfl F.slot_list_append F.type_list_append (args := [psD (progPS q)]) (fun X => .cons (by rw [e1]; exact Ev.tuple (.cons (Ev.name rfl) (.cons Ev.str (.cons (Ev.name rfl) .nil))) szl) .nil) (by rw [h1, map_snoc]; exact mut_append z1) ?_)
        refine Ex.cons (Ex1.mut (x := "texts") (ds' := strD ((qs.take (i + 1)).map progT)) rfl F.slot_list_append F.type_list_append (args := [.str (progT q)]) (fun X => .cons (by rw [e2]; exact Ev.op Ev.str (Ev.name rfl) (op_addS (by
          have : (Str.ofString "set n = ").length = 8 := rfl
          rw [this]; show _ ≤ 16777216; lia))) .nil) (by rw [h2, strD_snoc]; exact mut_append z2) ?_)
        exact Ex.nil (Ex.nil (fin _ rfl rfl))
      refine Ex.cons (Ex1.ite (fun X => Tr.or2 (Tr.cp (Ev.name rfl) Ev.str cmp_eqS) fun _ => Tr.cp (Ev.name rfl) Ev.str cmp_eqS) (fun hc2 => ?_) (fun hc2 => ?_))
      · have e1 : progPS q = ⟨kindOf' q.1, "", []⟩ := by unfold progPS; rw [if_neg (by rw [hc]; exact Bool.false_ne_true), if_pos hc2]
        have e2 : progT q = kindOf' q.1 := by unfold progT; rw [if_neg (by rw [hc]; exact Bool.false_ne_true), if_pos hc2]
        refine Ex.cons (Ex1.mut (x := "made") (ds' := ((qs.take (i + 1)).map progPS).map psD) rfl F.slot_list_append F.type_list_append (args := [psD (progPS q)]) (fun X => .cons (by rw [e1]; exact Ev.tuple (.cons (Ev.name rfl) (.cons Ev.str (.cons (EvL.ev (EvL.list .nil (show 0 ≤ 16777216 by decide))) .nil))) szl) .nil) (by rw [h1, map_snoc]; exact mut_append z1) ?_)
        refine Ex.cons (Ex1.mut (x := "texts") (ds' := strD ((qs.take (i + 1)).map progT)) rfl F.slot_list_append F.type_list_append (args := [.str (progT q)]) (fun X => .cons (by rw [e2]; exact Ev.name rfl) .nil) (by rw [h2, strD_snoc]; exact mut_append z2) ?_)
        exact Ex.nil (Ex.nil (Ex.nil (fin _ rfl rfl)))
      · have e1 : progPS q = ⟨kindOf' q.1, "", exprOf q.2⟩ := by unfold progPS; rw [if_neg (by rw [hc]; exact Bool.false_ne_true), if_neg (by rw [hc2]; exact Bool.false_ne_true)]
        have e2 : progT q = (kindOf' q.1 ++ (" " : Str)) ++ wordsOf q.2 := by unfold progT; rw [if_neg (by rw [hc]; exact Bool.false_ne_true), if_neg (by rw [hc2]; exact Bool.false_ne_true)]
        have a1 : (Str.ofString " ").length = 1 := rfl
        refine Ex.cons (Ex1.mut (x := "made") (ds' := ((qs.take (i + 1)).map progPS).map psD) rfl F.slot_list_append F.type_list_append (args := [psD (progPS q)]) (fun X => .cons (by rw [e1]; exact Ev.tuple (.cons (Ev.name rfl) (.cons Ev.str (.cons (Ev.name rfl) .nil))) szl) .nil) (by rw [h1, map_snoc]; exact mut_append z1) ?_)
        refine Ex.cons (Ex1.mut (x := "texts") (ds' := strD ((qs.take (i + 1)).map progT)) rfl F.slot_list_append F.type_list_append (args := [.str (progT q)]) (fun X => .cons (by rw [e2]; exact Ev.op (Ev.op (Ev.name rfl) Ev.str (op_addS (by rw [a1]; show _ ≤ 16777216; lia))) (Ev.name rfl) (op_addS (by rw [strLen_append, a1]; show _ ≤ 16777216; lia))) .nil) (by rw [h2, strD_snoc]; exact mut_append z2) ?_)
        exact Ex.nil (Ex.nil (Ex.nil (fin _ rfl rfl)))
  · refine Ex.freeze (x := "made") rfl (Ex.freeze (x := "texts") rfl ?_)
    refine Ex.cons (Ex1.ret (d := .tuple [.list ((qs.map progPS).map psD), .list (strD (qs.map progT))]) (fun X => Ev.congr (Ev.tuple (.cons (Ev.name rfl) (.cons (Ev.name rfl) .nil)) szl) ?_) rfl)
    rw [List.length_map, List.take_length]
end
end Mine
set_option Elab.async false
set_option maxRecDepth 100000
set_option linter.unusedVariables false
set_option tactic.hygienic false
namespace Mine
open PySem PyProof.Rows Builtin.Float

noncomputable def srcStep (b : Int) (st : List Str × List Int) (t : Str) : List Str × List Int :=
  ((st.1 ++ GAPS.getD (md (b + (st.1.length : Int)) 3) []) ++ [("  " : Str) ++ t], st.2 ++ [(((st.1 ++ GAPS.getD (md (b + (st.1.length : Int)) 3) []) ++ [("  " : Str) ++ t]).length : Int)])
noncomputable def srcAll (b : Int) (ts : List Str) : List Str × List Int := ts.foldl (srcStep b) ([], [])
noncomputable def srcParts (b : Int) (ts : List Str) : List Str := if ((srcAll b ts).1 ++ TAILS.getD (md b 5) []).length = 0 then [""] else (srcAll b ts).1 ++ TAILS.getD (md b 5) []
theorem gap_len (i : Nat) : (GAPS.getD i []).length ≤ 1 := by
  match i with
  | 0 => decide
  | 1 => decide
  | 2 => decide
  | i + 3 => exact Nat.zero_le _
theorem tail_len (i : Nat) : (TAILS.getD i []).length ≤ 2 := by
  match i with
  | 0 => decide
  | 1 => decide
  | 2 => decide
  | 3 => decide
  | 4 => decide
  | i + 5 => exact Nat.zero_le _
theorem srcAll_len (b : Int) : ∀ (ts : List Str) (st : List Str × List Int), (ts.foldl (srcStep b) st).1.length ≤ st.1.length + 2 * ts.length ∧ (ts.foldl (srcStep b) st).2.length = st.2.length + ts.length
  | [], st => ⟨by simp, by simp⟩
  | t :: ts, st => by
    rw [List.foldl_cons]
    obtain ⟨h1, h2⟩ := srcAll_len b ts (srcStep b st t)
    have := gap_len (md (b + (st.1.length : Int)) 3)
    simp only [srcStep, List.length_append, List.length_cons, List.length_nil] at h1 h2 ⊢
    lia
theorem intD_snoc (l : List Int) (x : Int) : intD (l ++ [x]) = intD l ++ [.int x] := by simp [intD]

section
variable {g : G} {n : Nat} {cd df : Value}
theorem f_source (hK : FnK g 26 .none cd) (B : Blt g) (D : Dat g) {ts : List Str} {b : Int} (ht : ts.length ≤ 1000) (hl : ∀ t ∈ ts, t.length ≤ 10000) :
    FnC g (n + 1) "_law_source" [.list (strD ts), .int b] (.tuple [.list (strD (srcParts b ts)), .list (intD (srcAll b ts).2)]) := by
  refine mkFn (ps := ["texts", "b"]) (dvs := []) (dds := []) hK rfl (fun pm doc s vs _ h => ?_) Kds.nil (by decide) (fun L p hp => .inl ?_) fun pm doc L a X₀ => ?_
  · obtain ⟨v, u, rfl⟩ := len2 h
    exact .of_eq rfl
  · rcases List.mem_cons.mp hp with rfl | hp
    · rfl
    rw [List.mem_singleton.mp hp]; rfl
  simp only [envAt, callEnvC, fdOf, Calls.docDef, newEnv]
  conv in (fBody (fnAt 26)) => whnf
  conv in (fScope (fnAt 26)) => whnf
  conv in (cellsFrom _ _ _) => whnf
  refine Ex.cons (Ex1.assignL (ds := []) (.inl rfl) (fun X => EvL.list .nil (by decide)) ?_)
  refine Ex.cons (Ex1.assignL (ds := []) (.inl rfl) (fun X => EvL.list .nil (by decide)) ?_)
  refine Ex.cons (Ex1.for (ds := strD ts) (R := fun i => [("parts", .own (strD (srcAll b (ts.take i)).1)), ("wheres", .own (intD (srcAll b (ts.take i)).2)), ("b", .fz (.int b))]) (fun X => EvI.list (Ev.name rfl)) (.cons rfl (.cons rfl (.cons rfl .nil))) (fun i d hd => ?_) ?_)
  · rw [strD, List.getElem?_map] at hd
    cases he : ts[i]? with
    | none => rw [he] at hd; cases hd
    | some t =>
      rw [he] at hd; cases hd
      have hst : srcAll b (ts.take (i + 1)) = srcStep b (srcAll b (ts.take i)) t := by
        unfold srcAll
        rw [List.take_add_one, he]; simp
      obtain ⟨l1, l2⟩ := srcAll_len b (ts.take i) ([], [])
      have htk : (ts.take i).length ≤ 1000 := Nat.le_trans (by rw [List.length_take]; exact Nat.min_le_right _ _) ht
      have l1' : (srcAll b (ts.take i)).1.length ≤ 2000 := by
        have : (srcAll b (ts.take i)).1.length ≤ 0 + 2 * (ts.take i).length := l1
        lia
      have l2' : (srcAll b (ts.take i)).2.length ≤ 1000 := by
        have : (srcAll b (ts.take i)).2.length = 0 + (ts.take i).length := l2
        lia
      generalize srcAll b (ts.take i) = st at *
      rw [hst]
      clear hst l1 l2
      have hg := gap_len (md (b + (st.1.length : Int)) 3)
      refine ⟨_, fun X₁ => Asg.name (.inl rfl), fun X₁ => ?_⟩
      refine Ex.freeze (x := "parts") rfl ?_
      refine Ex.cons (Ex1.assignL (ds := strD (st.1 ++ GAPS.getD (md (b + (st.1.length : Int)) 3) [])) (.inl rfl) (fun X => EvL.congr (EvL.add (ds := strD st.1) (ds' := strD (GAPS.getD (md (b + (st.1.length : Int)) 3) [])) (Ev.name rfl) (Ev.tab (Ev.gd D.gaps) (Ev.md (k := 3) (Ev.op (Ev.name rfl) (Ev.congr (Ev.callB rfl B.len.1 B.len.2 (.cons (Ev.name rfl) .nil) (c_len_list (ds := strD st.1) ?_)) ?_) op_add) Ev.int rfl (by decide)) (getD_map (md_lt _ (by decide))) (by decide)) ?_) ?_) ?_)
      · simp [strD, sizeLine]; lia
      · simp [strD]
      · simp only [strD, List.length_map]; show _ ≤ 16777216; lia
      · simp [strD]
      refine Ex.cons (Ex1.mut (x := "parts") (ds' := strD (srcStep b st t).1) rfl F.slot_list_append F.type_list_append (args := [.str (("  " : Str) ++ t)]) (fun X => .cons (Ev.op Ev.str (Ev.name rfl) (op_addS ?_)) .nil) ?_ ?_)
      · have e1 : (Str.ofString "  ").length = 2 := rfl
        have := hl t (List.mem_of_getElem? he)
        rw [e1]; show _ ≤ 16777216; lia
      · unfold srcStep
        rw [strD_snoc]
        refine mut_append ?_
        simp only [strD, List.length_map, List.length_append]; show _ ≤ 16777216; lia
      refine Ex.cons (Ex1.mut (x := "wheres") (ds' := intD (srcStep b st t).2) rfl F.slot_list_append F.type_list_append (args := [.int ((srcStep b st t).1.length : Int)]) (fun X => .cons (Ev.thaw (x := "parts") rfl trivial fun X => Ev.congr (Ev.callB rfl B.len.1 B.len.2 (.cons (Ev.name rfl) .nil) (c_len_list (ds := strD (srcStep b st t).1) ?_)) ?_) .nil) ?_ ?_)
      · simp only [strD, List.length_map, srcStep, List.length_append, List.length_cons, List.length_nil]; show _ ≤ 16777216; lia
      · simp [strD]
      · unfold srcStep
        rw [intD_snoc]
        refine mut_append ?_
        simp only [intD, List.length_map]; show _ ≤ 16777216; lia
      exact Ex.nil (.cons rfl (.cons rfl (.cons rfl .nil)))
  · have hlen : (strD ts).length = ts.length := by simp [strD]
    rw [hlen, List.take_length]
    obtain ⟨l1, l2⟩ := srcAll_len b ts ([], [])
    have l1' : (srcAll b ts).1.length ≤ 2000 := by
      have : (srcAll b ts).1.length ≤ 0 + 2 * ts.length := l1
      lia
    have htl := tail_len (md b 5)
    refine Ex.freeze (x := "parts") rfl ?_
    refine Ex.cons (Ex1.assignL (ds := strD ((srcAll b ts).1 ++ TAILS.getD (md b 5) [])) (.inl rfl) (fun X => EvL.congr (EvL.add (ds := strD (srcAll b ts).1) (ds' := strD (TAILS.getD (md b 5) [])) (Ev.name rfl) (Ev.tab (Ev.gd D.tails) (Ev.md (k := 5) (Ev.name rfl) Ev.int rfl (by decide)) (getD_map (md_lt _ (by decide))) (by decide)) ?_) ?_) ?_)
    · simp only [strD, List.length_map]; show _ ≤ 16777216; lia
    · simp [strD]
    have hz : (strD ((srcAll b ts).1 ++ TAILS.getD (md b 5) [])).length ≤ sizeLine := by
      simp only [strD, List.length_map, List.length_append]; show _ ≤ 16777216; lia
    suffices rest : ∀ ρ : Rho, List.lookup ("parts" : Str) ρ = some (VSlot.own (strD (srcParts b ts))) → List.lookup ("wheres" : Str) ρ = some (VSlot.own (intD (srcAll b ts).2)) → Ex g n X₀ _ ρ _ _ by
      refine Ex.cons (Ex1.ite (fun X => Tr.thaw (x := "parts") rfl fun X => Tr.cp (Ev.callB rfl B.len.1 B.len.2 (.cons (Ev.name rfl) .nil) (c_len_list hz)) Ev.int cmp_eq) (fun hc => ?_) (fun hc => ?_))
      · have h0 : ((srcAll b ts).1 ++ TAILS.getD (md b 5) []).length = 0 := by have := beq_iff_eq.mp hc; rw [strD, List.length_map] at this; lia
        have h1 : (srcAll b ts).1 ++ TAILS.getD (md b 5) [] = [] := List.eq_nil_of_length_eq_zero h0
        refine Ex.cons (Ex1.mut (x := "parts") (ds' := strD (srcParts b ts)) rfl F.slot_list_append F.type_list_append (args := [.str ""]) (fun X => .cons Ev.str .nil) ?_ ?_)
        · unfold srcParts
          rw [if_pos h0, h1]
          exact mut_append (show 0 ≤ 16777216 by decide)
        · exact Ex.nil (rest _ rfl rfl)
      · have h0 : ¬ ((srcAll b ts).1 ++ TAILS.getD (md b 5) []).length = 0 := by have := beq_eq_false_iff_ne.mp hc; rw [strD, List.length_map] at this; lia
        refine Ex.nil (rest _ ?_ rfl)
        unfold srcParts
        rw [if_neg h0]; rfl
    intro ρ r1 r2
    refine Ex.freeze (x := "parts") r1 (Ex.freeze (x := "wheres") (by rw [List.lookup_cons]; exact r2) ?_)
    exact Ex.cons (Ex1.ret (d := .tuple [.list (strD (srcParts b ts)), .list (intD (srcAll b ts).2)]) (fun X => Ev.tuple (.cons (Ev.name rfl) (.cons (Ev.name rfl) .nil)) szl) rfl)

noncomputable def evOf (size : Nat) (m : Int) : Nat × Str := (md m size, NOTES.getD (md m 7) "")
theorem f_events (hK : FnK g 27 .none cd) (D : Dat g) {ms : List Int} {size : Nat} (hs : 0 < size) (hm : ms.length ≤ 1000) : FnC g (n + 1) "_law_events" [.list (intD ms), .int (size : Int)] (.list ((ms.map (evOf size)).map evD)) := by
  refine mkFn (ps := ["marks", "size"]) (dvs := []) (dds := []) hK rfl (fun pm doc s vs _ h => ?_) Kds.nil (by decide) (fun L p hp => ?_) fun pm doc L a X₀ => ?_
  · obtain ⟨v, u, rfl⟩ := len2 h
    exact .of_eq rfl
  · rcases List.mem_cons.mp hp with rfl | hp
    · exact .inl rfl
    rw [List.mem_singleton.mp hp]; exact .inr ⟨rfl, rfl⟩
  simp only [envAt, callEnvC, fdOf, Calls.docDef, newEnv]
  conv in (fBody (fnAt 27)) => whnf
  conv in (fScope (fnAt 27)) => whnf
  conv in (cellsFrom _ _ _) => whnf
  refine Ex.cons (Ex1.ret (d := .list ((ms.map (evOf size)).map evD)) (fun X => EvL.ev ?_) rfl)
  refine EvL.congr (EvL.compMap (xs := ms) (inj := .int) (F := fun m => evD (evOf size m)) (q := fun _ => true) (ρc := [("size", .fz (.int (size : Int)))]) (cl := [("size", L + 1)]) (EvI.list (Ev.name rfl)) (CompOk.map rfl (fun x c h => h) rfl (by decide) (by decide) (FreeOk.cons rfl rfl rfl rfl rfl FreeOk.nil) (szn (Nat.le_trans hm (by decide))) fun m hm => ?_)) ?_
  · refine ⟨[("mark", .fz (.int m)), ("size", .fz (.int (size : Int)))], .cons rfl .nil, fun C X₁ => Asg.name (.inl rfl), fun C X₁ X => rfl, fun _ C X₁ X => ?_⟩
    exact Ev.tuple (.cons (Ev.md (k := size) (Ev.name rfl) (Ev.name rfl) rfl hs) (.cons (Ev.tab (Ev.gd D.notes) (Ev.md (k := 7) (Ev.name rfl) Ev.int rfl (by decide)) (getD_map (md_lt _ (by decide))) (by decide)) .nil)) szl
  · rw [map_tt, List.map_map]; rfl

theorem f_first_from (hK : FnK g 33 .none cd) (B : Blt g) {ws : List Int} {line : Int} (hws : ws.length ≤ 1000) : FnC g (n + 1) "_law_first_from" [.list (intD ws), .int line] (firstFrom ws line) := by
  refine mkFn (ps := ["wheres", "line"]) (dvs := []) (dds := []) hK rfl (fun pm doc s vs _ h => ?_) Kds.nil (by decide) (fun L p hp => .inl ?_) fun pm doc L a X₀ => ?_
  · obtain ⟨v, u, rfl⟩ := len2 h
    exact .of_eq rfl
  · rcases List.mem_cons.mp hp with rfl | hp
    · rfl
    rw [List.mem_singleton.mp hp]; rfl
  simp only [envAt, callEnvC, fdOf, Calls.docDef, newEnv]
  conv in (fBody (fnAt 33)) => whnf
  conv in (fScope (fnAt 33)) => whnf
  conv in (cellsFrom _ _ _) => whnf
  refine Ex.cons (Ex1.forI (ds := rngD ws.length) (R := fun _ => [("line", .fz (.int line)), ("wheres", .fz (.list (intD ws)))]) (J := fun i => ∀ m, m < i → ∀ w, ws[m]? = some w → ¬ w ≥ line) (fun m hm => (nomatch hm)) (fun X => EvI.callT rfl B.range.1 B.range.2 (.cons (Ev.congr (Ev.callB rfl B.len.1 B.len.2 (.cons (Ev.name rfl) .nil) (c_len_list (ds := intD ws) ?_)) ?_) .nil) (ci_range (szn (Nat.le_trans hws (by decide))))) (.cons rfl (.cons rfl .nil)) (fun i d hJ hd => ?_) (fun hJ => ?_))
  · simp [intD, sizeLine]; lia
  · simp [intD]
  · obtain ⟨hi, rfl⟩ := rngD_get hd
    have hw := List.getElem?_eq_getElem hi
    refine ⟨_, fun X₁ => Asg.name (.inl rfl), fun X₁ => ?_⟩
    refine Ex.cons (Ex1.ite (fun X => Tr.cp (Ev.idxL (i := (i : Int)) (d := .int ws[i]) (Ev.name rfl) (Ev.name rfl) (by lia) (by lia) ?_) (Ev.name rfl) cmp_ge) (fun hc => ?_) (fun hc => ?_))
    · simp [intD, hi]
    · refine Ex.cons (Ex1.ret (d := firstFrom ws line) (fun X => Ev.congr (Ev.name rfl) ?_) rfl)
      have : ws.findIdx? (fun w => decide (w ≥ line)) = some i := by
        rw [List.findIdx?_eq_some_iff_getElem]
        refine ⟨hi, hc, fun j hj => ?_⟩
        have := hJ j hj _ (List.getElem?_eq_getElem (by lia))
        simpa using this
      unfold firstFrom
      rw [this]
    · refine Ex.nil (Ex.nil ⟨.cons rfl (.cons rfl .nil), fun m hm w' hw' => ?_⟩)
      rcases Nat.lt_or_ge m i with h | h
      · exact hJ m h w' hw'
      · have : m = i := by lia
        subst this
        rw [hw] at hw'; cases hw'
        exact of_decide_eq_false hc
  · refine Ex.cons (Ex1.ret (d := firstFrom ws line) (fun X => Ev.congr Ev.noneC ?_) rfl)
    have : ws.findIdx? (fun w => decide (w ≥ line)) = none := by
      rw [List.findIdx?_eq_none_iff]
      intro w hw
      obtain ⟨m, hm, e⟩ := List.mem_iff_getElem.mp hw
      have := hJ m (by rw [rngD_len]; exact hm) w (by rw [← e]; exact List.getElem?_eq_getElem hm)
      exact decide_eq_false this
    unfold firstFrom
    rw [this]
end
end Mine
set_option Elab.async false
set_option maxRecDepth 100000
set_option linter.unusedVariables false
set_option tactic.hygienic false
namespace Mine
open PySem PyProof.Rows Builtin.Float

noncomputable def scOf (s : Int) : Int := SCALES.getD (md s 3) 0
noncomputable def mvOf (ns : List Int) (q : Int × Int) : Mv1 := ⟨md q.1 12 * 99991, OPS.getD (md q.1 5) "", ns.getD (md q.1 3) 0 * scOf q.2, (ns.map (· * scOf q.2)).take (md q.2 4), NOTES.getD (md q.1 7) ""⟩
theorem sc_ok (s : Int) (v : Int) : IntMulOk v (scOf s) := by
  have h := md_lt s (k := 3) (by decide)
  unfold scOf
  generalize md s 3 = i at *
  have : i = 0 ∨ i = 1 ∨ i = 2 := by lia
  rcases this with rfl | rfl | rfl <;> exact IntMulOk.of_right (by decide)

noncomputable def rowPage (ls : List Int) (texts : List Str) (e : Nat × Str) : Str :=
  if e.2 == "" then (Txt.rjust (numText (whereOf ls e.1)) 5 ++ ("  " : Str)) ++ texts.getD e.1 "" else (((Txt.rjust (numText (whereOf ls e.1)) 5 ++ ("  " : Str)) ++ Txt.ljust (texts.getD e.1 "") (wOf texts : Nat)) ++ ("  # " : Str)) ++ e.2

section
variable {g : G} {n : Nat} {cd df : Value}
theorem f_moves (hK : FnK g 28 .none cd) (D : Dat g) {qs : List (Int × Int)} {ns : List Int} (hq : qs.length ≤ 1000) (hn : ns.length = 3) : FnC g (n + 1) "_law_moves" [.list (qs.map pairD), .list (intD ns)] (.list ((qs.map (mvOf ns)).map mvD)) := by
  refine mkFn (ps := ["steps", "numbers"]) (dvs := []) (dds := []) hK rfl (fun pm doc s vs _ h => ?_) Kds.nil (by decide) (fun L p hp => .inl ?_) fun pm doc L a X₀ => ?_
  · obtain ⟨v, u, rfl⟩ := len2 h
    exact .of_eq rfl
  · rcases List.mem_cons.mp hp with rfl | hp
    · rfl
    rw [List.mem_singleton.mp hp]; rfl
  simp only [envAt, callEnvC, fdOf, Calls.docDef, newEnv]
  conv in (fBody (fnAt 28)) => whnf
  conv in (fScope (fnAt 28)) => whnf
  conv in (cellsFrom _ _ _) => whnf
  refine Ex.cons (Ex1.assignL (ds := []) (.inl rfl) (fun X => EvL.list .nil (by decide)) ?_)
  refine Ex.cons (Ex1.for (ds := qs.map pairD) (R := fun i => [("made", .own (((qs.take i).map (mvOf ns)).map mvD)), ("numbers", .fz (.list (intD ns)))]) (fun X => EvI.list (Ev.name rfl)) (.cons rfl (.cons rfl .nil)) (fun i d hd => ?_) ?_)
  · rw [List.getElem?_map] at hd
    cases he : qs[i]? with
    | none => rw [he] at hd; cases hd
    | some q =>
      rw [he] at hd; cases hd
      refine ⟨_, fun X₁ => Asg.tuple (.cons (Asg.name (.inl rfl)) (.cons (Asg.name (.inl rfl)) .nil)), fun X₁ => ?_⟩
      refine Ex.cons (Ex1.assign (d := .int (scOf q.2)) (.inr ⟨rfl, rfl, rfl⟩) (fun X => Ev.tab (Ev.gd D.scales) (Ev.md (k := 3) (Ev.name rfl) Ev.int rfl (by decide)) (getD_map (md_lt _ (by decide))) (by decide)) ?_)
      refine Ex.cons (Ex1.assign (d := .list (intD (mvOf ns q).st)) (.inl rfl) (fun X => EvL.ev (EvL.congr (EvL.upto (k := md q.2 4) (EvL.ev (EvL.congr (EvL.compMap (xs := ns) (inj := .int) (F := fun v => .int (v * scOf q.2)) (q := fun _ => true) (ρc := [("scale", .fz (.int (scOf q.2)))]) (cl := [("scale", L + 1)]) (EvI.list (Ev.name rfl)) (CompOk.map rfl (fun x c h => h) rfl (by decide) (by decide) (FreeOk.cons rfl rfl rfl rfl rfl FreeOk.nil) (by rw [hn]; decide) fun v hv => ?_)) (map_tt _ _))) (Ev.md (k := 4) (Ev.name rfl) Ev.int rfl (by decide)) ?_) ?_)) ?_)
      · exact ⟨[("v", .fz (.int v)), ("scale", .fz (.int (scOf q.2)))], .cons rfl .nil, fun C X₁ => Asg.name (.inl rfl), fun C X₁ X => rfl, fun _ C X₁ X => Ev.op (Ev.name rfl) (Ev.name rfl) (op_mul (sc_ok _ _))⟩
      · rw [List.length_map, hn]; decide
      · rw [intD, mvOf, List.map_take, List.map_map]; rfl
      have h1 : (qs.take (i + 1)).map (mvOf ns) = (qs.take i).map (mvOf ns) ++ [mvOf ns q] := by rw [List.take_add_one, he]; simp
      have z1 : (((qs.take i).map (mvOf ns)).map mvD).length ≤ sizeLine := by simp [sizeLine]; lia
      refine Ex.cons (Ex1.mut (x := "made") (ds' := ((qs.take (i + 1)).map (mvOf ns)).map mvD) rfl F.slot_list_append F.type_list_append (args := [mvD (mvOf ns q)]) (fun X => .cons (Ev.tuple (.cons (Ev.congr (Ev.op (Ev.md (k := 12) (Ev.name rfl) Ev.int rfl (by decide)) Ev.int (op_mul (IntMulOk.of_right (by decide)))) ?_) (.cons (Ev.tuple (.cons (Ev.tab (Ev.gd D.ops) (Ev.md (k := 5) (Ev.name rfl) Ev.int rfl (by decide)) (getD_map (md_lt _ (by decide))) (by decide)) (.cons (Ev.op (Ev.idxL (i := (md q.1 3 : Int)) (d := .int (ns.getD (md q.1 3) 0)) (Ev.name rfl) (Ev.md (k := 3) (Ev.name rfl) Ev.int rfl (by decide)) (by lia) ?_ ?_) (Ev.name rfl) (op_mul (sc_ok _ _))) .nil)) szl) (.cons (Ev.name rfl) (.cons (Ev.tab (Ev.gd D.notes) (Ev.md (k := 7) (Ev.name rfl) Ev.int rfl (by decide)) (getD_map (md_lt _ (by decide))) (by decide)) .nil)))) szl) .nil) (by rw [h1, map_snoc]; exact mut_append z1) ?_)
      · show PyData.int _ = PyData.int (((md q.1 12 * 99991 : Nat) : Nat) : Int)
        rw [Int.natCast_mul]; rfl
      · have := md_lt q.1 (k := 3) (by decide); lia
      · rw [Int.toNat_natCast]
        exact getD_map (by rw [hn]; exact md_lt _ (by decide))
      exact Ex.nil (.cons rfl (.cons rfl .nil))
  · refine Ex.freeze (x := "made") rfl ?_
    refine Ex.cons (Ex1.ret (d := .list ((qs.map (mvOf ns)).map mvD)) (fun X => Ev.congr (Ev.name rfl) ?_) rfl)
    rw [List.length_map, List.take_length]

theorem f_page (hK : FnK g 29 .none cd) (B : Blt g) {ws : List Int} {texts : List Str} {evs : List (Nat × Str)} {off : Int} (hws : ws.length ≤ 1000) (hss : texts.length ≤ 1000) (hev : evs.length ≤ 1000) (hpc : ∀ e ∈ evs, e.1 < texts.length ∧ e.2.length ≤ 1000) (htl : ∀ t ∈ texts, t.length ≤ 10000)
    (hwb : ∀ k : Nat, k < 1000 → (whereOf (ws.map (· + off)) k).natAbs < 10 ^ 4300 ∧ (numText (whereOf (ws.map (· + off)) k)).length ≤ 10000) :
    FnC g (n + 1) "_law_page" [.list (strD texts), .list (intD ws), .list (evs.map evD), .int off] (.list (strD (evs.map (rowPage (ws.map (· + off)) texts)))) := by
  refine mkFn (ps := ["texts", "wheres", "events", "offset"]) (dvs := []) (dds := []) hK rfl (fun pm doc s vs _ h => ?_) Kds.nil (by decide) (fun L p hp => .inl ?_) fun pm doc L a X₀ => ?_
  · obtain ⟨v1, v2, v3, v4, rfl⟩ := len4 h
    exact .of_eq rfl
  · rcases List.mem_cons.mp hp with rfl | hp
    · rfl
    rcases List.mem_cons.mp hp with rfl | hp
    · rfl
    rcases List.mem_cons.mp hp with rfl | hp
    · rfl
    rw [List.mem_singleton.mp hp]; rfl
  simp only [envAt, callEnvC, fdOf, Calls.docDef, newEnv]
  conv in (fBody (fnAt 29)) => whnf
  conv in (fScope (fnAt 29)) => whnf
  conv in (cellsFrom _ _ _) => whnf
  refine Ex.cons (Ex1.assign (d := .int 4) (.inl rfl) (fun X => Ev.int) ?_)
  refine Ex.cons (Ex1.for (ds := strD texts) (R := fun i => [("width", .fz (.int (maxL (texts.take i) : Nat))), ("texts", .fz (.list (strD texts))), ("wheres", .fz (.list (intD ws))), ("events", .fz (.list (evs.map evD))), ("offset", .fz (.int off))]) (fun X => EvI.list (Ev.name rfl)) (.cons rfl (.cons rfl (.cons rfl (.cons rfl (.cons rfl .nil))))) (fun i d hd => ?_) ?_)
  · rw [strD, List.getElem?_map] at hd
    cases he : texts[i]? with
    | none => rw [he] at hd; cases hd
    | some t =>
      rw [he] at hd; cases hd
      have ht := htl t (List.mem_of_getElem? he)
      have hm : maxL (texts.take (i + 1)) = max (maxL (texts.take i)) t.length := by unfold maxL; rw [List.take_add_one, he]; simp
      refine ⟨_, fun X₁ => Asg.name (.inl rfl), fun X₁ => ?_⟩
      refine Ex.cons (Ex1.ite (fun X => Tr.cp (Ev.callB rfl B.len.1 B.len.2 (.cons (Ev.name rfl) .nil) (c_len_str (szn (Nat.le_trans ht (by decide))))) (Ev.name rfl) cmp_gt) (fun hc => ?_) (fun hc => ?_))
      · have h1 : (t.length : Int) > (maxL (texts.take i) : Nat) := of_decide_eq_true hc
        have h2 : maxL (texts.take (i + 1)) = t.length := by rw [hm]; lia
        refine Ex.cons (Ex1.assign (d := .int (maxL (texts.take (i + 1)) : Nat)) (.inl rfl) (fun X => Ev.congr (Ev.callB rfl B.len.1 B.len.2 (.cons (Ev.name rfl) .nil) (c_len_str (szn (Nat.le_trans ht (by decide))))) (by rw [h2])) ?_)
        exact Ex.nil (Ex.nil (.cons rfl (.cons rfl (.cons rfl (.cons rfl (.cons rfl .nil))))))
      · have h1 : ¬ (t.length : Int) > (maxL (texts.take i) : Nat) := of_decide_eq_false hc
        have h2 : maxL (texts.take (i + 1)) = maxL (texts.take i) := by rw [hm]; lia
        refine Ex.nil (Ex.nil (.cons ?_ (.cons rfl (.cons rfl (.cons rfl (.cons rfl .nil))))))
        rw [h2]; rfl
  rw [show (strD texts).length = texts.length by simp [strD], List.take_length]
  suffices rest : ∀ ρ : Rho, Sub [("width", .fz (.int (wOf texts : Nat))), ("texts", .fz (.list (strD texts))), ("wheres", .fz (.list (intD ws))), ("events", .fz (.list (evs.map evD))), ("offset", .fz (.int off))] ρ → Ex g n X₀ _ ρ _ _ by
    refine Ex.cons (Ex1.ite (fun X => Tr.cp (Ev.name rfl) Ev.int cmp_gt) (fun hc => ?_) (fun hc => ?_))
    · have h1 : ((maxL texts : Nat) : Int) > 48 := of_decide_eq_true hc
      have h2 : wOf texts = 48 := by unfold wOf; rw [if_pos (by lia)]
      refine Ex.cons (Ex1.assign (d := .int (wOf texts : Nat)) (.inl rfl) (fun X => Ev.congr Ev.int (by rw [h2]; rfl)) ?_)
      exact Ex.nil (rest _ (.cons rfl (.cons rfl (.cons rfl (.cons rfl (.cons rfl .nil))))))
    · have h1 : ¬ ((maxL texts : Nat) : Int) > 48 := of_decide_eq_false hc
      have h2 : wOf texts = maxL texts := by unfold wOf; rw [if_neg (by lia)]
      refine Ex.nil (rest _ (.cons ?_ (.cons rfl (.cons rfl (.cons rfl (.cons rfl .nil))))))
      rw [h2]; rfl
  intro ρ hρ
  refine Ex.weak ?_ hρ
  clear hρ
  generalize hls : ws.map (· + off) = ls at *
  refine Ex.cons (Ex1.assignL (ds := []) (.inl rfl) (fun X => EvL.list .nil (by decide)) ?_)
  refine Ex.cons (Ex1.for (ds := evs.map evD) (R := fun i => [("page", .own (strD ((evs.take i).map (rowPage ls texts)))), ("width", .fz (.int (wOf texts : Nat))), ("texts", .fz (.list (strD texts))), ("wheres", .fz (.list (intD ws))), ("offset", .fz (.int off))]) (fun X => EvI.list (Ev.name rfl)) (.cons rfl (.cons rfl (.cons rfl (.cons rfl (.cons rfl .nil))))) (fun i d hd => ?_) ?_)
  · rw [List.getElem?_map] at hd
    cases he : evs[i]? with
    | none => rw [he] at hd; cases hd
    | some e =>
      rw [he] at hd; cases hd
      obtain ⟨hpe, hne⟩ := hpc e (List.mem_of_getElem? he)
      refine ⟨_, fun X₁ => Asg.tuple (.cons (Asg.name (.inl rfl)) (.cons (Asg.name (.inl rfl)) .nil)), fun X₁ => ?_⟩
      refine Ex.cons (Ex1.assign (d := .int ((e.1 : Int) + 1)) (.inl rfl) (fun X => Ev.op (Ev.name rfl) Ev.int op_add) ?_)
      have htx : texts[e.1]? = some (texts.getD e.1 "") := by rw [List.getElem?_eq_getElem hpe]; simp [hpe]
      have htl2 := htl _ (List.mem_of_getElem? htx)
      obtain ⟨hw1, hw2⟩ := hwb e.1 (Nat.lt_of_lt_of_le hpe hss)
      have hrow : (evs.take (i + 1)).map (rowPage ls texts) = (evs.take i).map (rowPage ls texts) ++ [rowPage ls texts e] := by rw [List.take_add_one, he]; simp
      have hsz : (strD ((evs.take i).map (rowPage ls texts))).length ≤ sizeLine := by simp [strD, sizeLine]; lia
      suffices rest : ∀ ρ : Rho, Sub [("number", .fz (.int (whereOf ls e.1))), ("pc", .fz (.int (e.1 : Int))), ("note", .fz (.str e.2)), ("page", .own (strD ((evs.take i).map (rowPage ls texts)))), ("width", .fz (.int (wOf texts : Nat))), ("texts", .fz (.list (strD texts))), ("wheres", .fz (.list (intD ws))), ("offset", .fz (.int off))] ρ → Ex g n X₁ _ ρ _ _ by
        refine Ex.cons (Ex1.ite (fun X => Tr.cp (Ev.name rfl) (Ev.callB rfl B.len.1 B.len.2 (.cons (Ev.name rfl) .nil) (c_len_list (ds := intD ws) (by simp [intD, sizeLine]; lia))) cmp_lt) (fun hc => ?_) (fun hc => ?_))
        · have hlt2 : e.1 < ws.length := by have := of_decide_eq_true hc; simp [intD] at this; lia
          have hlt3 : e.1 < ls.length := by rw [← hls, List.length_map]; exact hlt2
          refine Ex.cons (Ex1.assign (d := .int (whereOf ls e.1)) (.inl rfl) (fun X => Ev.congr (Ev.op (Ev.idxL (i := (e.1 : Int)) (d := .int ws[e.1]) (Ev.name rfl) (Ev.name rfl) (by lia) (by lia) (by simp [intD, hlt2])) (Ev.name rfl) op_add) ?_) ?_)
          · subst hls; simp [whereOf, hlt2]
          · exact Ex.nil (rest _ (.cons rfl (.cons rfl (.cons rfl (.cons rfl (.cons rfl (.cons rfl (.cons rfl (.cons rfl .nil)))))))))
        · have hge : ¬ e.1 < ws.length := by have := of_decide_eq_false hc; simp [intD] at this; lia
          have hge3 : ¬ e.1 < ls.length := by rw [← hls, List.length_map]; exact hge
          refine Ex.nil (rest _ (.cons ?_ (.cons rfl (.cons rfl (.cons rfl (.cons rfl (.cons rfl (.cons rfl (.cons rfl .nil)))))))))
          simp only [whereOf, hge3, dif_neg, not_false_eq_true]; rfl
      intro ρ hρ
      refine Ex.weak ?_ hρ
      clear hρ
      have a2 : (Str.ofString "  ").length = 2 := rfl
      have a3 : (Str.ofString "  # ").length = 4 := rfl
      have hrj := rjust_len (numText (whereOf ls e.1)) 5
      have hlj := ljust_len (texts.getD e.1 "") (wOf texts)
      have hwb2 := wOf_b texts
      refine Ex.cons (Ex1.ite (fun X => Tr.cp (Ev.name rfl) Ev.str cmp_eqS) (fun hc => ?_) (fun hc => ?_))
      · refine Ex.cons (Ex1.mut (x := "page") (ds' := strD ((evs.take (i + 1)).map (rowPage ls texts))) rfl F.slot_list_append F.type_list_append (args := [.str (rowPage ls texts e)]) (fun X => .cons ?_ .nil) (by rw [hrow, strD_snoc]; exact mut_append hsz) ?_)
        · have er : rowPage ls texts e = (Txt.rjust (numText (whereOf ls e.1)) 5 ++ ("  " : Str)) ++ texts.getD e.1 "" := by unfold rowPage; rw [if_pos hc]
          rw [er]
          refine Ev.op (Ev.op (Ev.meth (a := .str (numText (whereOf ls e.1))) (Ev.callT rfl B.str.1 B.str.2 (.cons (Ev.name rfl) .nil) (c_str_int hw1)) F.plainAttrs_str F.slot_str_rjust F.type_str_rjust (.cons Ev.int .nil) (c_rjust (by decide))) Ev.str (op_addS ?_)) (Ev.idxL (i := (e.1 : Int)) (Ev.name rfl) (Ev.name rfl) (by lia) (by lia) (by rw [Int.toNat_natCast, strD, List.getElem?_map, htx]; rfl)) (op_addS ?_)
          · rw [a2]; show (Txt.rjust _ ((5 : Nat) : Int)).length + _ ≤ 16777216; lia
          · rw [strLen_append, a2]; show (Txt.rjust _ ((5 : Nat) : Int)).length + _ + _ ≤ 16777216; lia
        · exact Ex.nil (Ex.nil (.cons rfl (.cons rfl (.cons rfl (.cons rfl (.cons rfl .nil))))))
      · refine Ex.cons (Ex1.mut (x := "page") (ds' := strD ((evs.take (i + 1)).map (rowPage ls texts))) rfl F.slot_list_append F.type_list_append (args := [.str (rowPage ls texts e)]) (fun X => .cons ?_ .nil) (by rw [hrow, strD_snoc]; exact mut_append hsz) ?_)
        · have er : rowPage ls texts e = (((Txt.rjust (numText (whereOf ls e.1)) 5 ++ ("  " : Str)) ++ Txt.ljust (texts.getD e.1 "") (wOf texts : Nat)) ++ ("  # " : Str)) ++ e.2 := by unfold rowPage; rw [if_neg (by rw [hc]; exact Bool.false_ne_true)]
          rw [er]
          refine Ev.op (Ev.op (Ev.op (Ev.op (Ev.meth (a := .str (numText (whereOf ls e.1))) (Ev.callT rfl B.str.1 B.str.2 (.cons (Ev.name rfl) .nil) (c_str_int hw1)) F.plainAttrs_str F.slot_str_rjust F.type_str_rjust (.cons Ev.int .nil) (c_rjust (by decide))) Ev.str (op_addS ?_)) (Ev.meth (a := .str (texts.getD e.1 "")) (Ev.idxL (i := (e.1 : Int)) (Ev.name rfl) (Ev.name rfl) (by lia) (by lia) (by rw [Int.toNat_natCast, strD, List.getElem?_map, htx]; rfl)) F.plainAttrs_str F.slot_str_ljust F.type_str_ljust (.cons (Ev.name rfl) .nil) (c_ljust ?_)) (op_addS ?_)) Ev.str (op_addS ?_)) (Ev.name rfl) (op_addS ?_)
          · rw [a2]; show (Txt.rjust _ ((5 : Nat) : Int)).length + _ ≤ 16777216; lia
          · have : ∀ w < 49, PadOk ((w : Nat) : Int) = true := by decide
            exact this _ (by lia)
          · rw [strLen_append, a2]; show (Txt.rjust _ ((5 : Nat) : Int)).length + _ + _ ≤ 16777216; lia
          · rw [strLen_append, strLen_append, a2, a3]; show (Txt.rjust _ ((5 : Nat) : Int)).length + _ + _ + _ ≤ 16777216; lia
          · rw [strLen_append, strLen_append, strLen_append, a2, a3]; show (Txt.rjust _ ((5 : Nat) : Int)).length + _ + _ + _ + _ ≤ 16777216; lia
        · exact Ex.nil (Ex.nil (.cons rfl (.cons rfl (.cons rfl (.cons rfl (.cons rfl .nil))))))
  · refine Ex.freeze (x := "page") rfl ?_
    refine Ex.cons (Ex1.ret (d := .list (strD (evs.map (rowPage ls texts)))) (fun X => Ev.congr (Ev.name rfl) ?_) rfl)
    rw [List.length_map, List.take_length]
end
end Mine
set_option Elab.async false
set_option maxRecDepth 100000
set_option linter.unusedVariables false
set_option tactic.hygienic false
namespace Mine
open PySem PyProof.Rows Builtin.Float

noncomputable def cutP (w : Int) (c : Str) : Str := if (c.length : Int) > w then ("... " : Str) ++ Txt.slice c (some ((c.length : Int) - w + 4)) none else c
noncomputable def baseP (w : Int) (m : Mv1) : Str := (((((((Txt.rjust (numText (m.pc : Int)) 6 ++ ("  " : Str)) ++ Txt.ljust m.op 5) ++ (" " : Str)) ++ Txt.rjust (numText m.arg) 6) ++ ("  [" : Str)) ++ cutP w (cellsT m.st)) ++ ("]" : Str))
noncomputable def rowMP (w : Int) (m : Mv1) : Str := if m.note != "" then (baseP w m ++ ("  # " : Str)) ++ m.note else baseP w m
noncomputable def headOf (x : Str) : Str := (Txt.split x " = ").getD 0 ""
noncomputable def keepsL {α : Type} (noteOf : α → Str) (names : List Str) (keep : Bool) (len : Nat) (p : α × Nat) : Bool := names.contains (headOf (noteOf p.1)) || (keep && ((p.2 : Int) == (len : Int) - 1))
noncomputable def keptT {α : Type} (noteOf : α → Str) (names : List Str) (keep : Bool) (es : List α) : List α := (es.zipIdx.filter (keepsL noteOf names keep es.length)).map (·.1)
noncomputable def rowAt (parts : List Str) (ws cs ts : List Int) (i : Nat) : Option PyData :=
  if ws.contains ((i : Int) + 1) then some (.tuple [.int ((i : Int) + 1), .str (parts.getD i ""), .int (cs.getD (ws.idxOf ((i : Int) + 1)) 0), .int (ts.getD (ws.idxOf ((i : Int) + 1)) 0)])
  else if decide ((i : Int) + 1 < (parts.length : Int)) || (parts.getD i "" != "") then some (.tuple [.int ((i : Int) + 1), .str (parts.getD i ""), .none, .none]) else none

section
variable {g : G} {n : Nat} {cd df : Value}

theorem f_machine_page (hK : FnK g 30 .none cd) (B : Blt g) {ms : List Mv1} {w : Int} (hms : ms.length ≤ 1000) (hN : ∀ m ∈ ms, (∀ v ∈ m.st, v.natAbs < 10 ^ 4300 ∧ (numText v).length ≤ 100) ∧ m.arg.natAbs < 10 ^ 4300 ∧ (numText m.arg).length ≤ 100 ∧ m.st.length ≤ 1000 ∧ m.op.length ≤ 1000 ∧ m.note.length ≤ 1000 ∧ (m.pc : Int).natAbs < 10 ^ 4300 ∧ (numText (m.pc : Int)).length ≤ 10000) :
    FnC g (n + 1) "_law_machine_page" [.list (ms.map mvD), .int w] (.list (strD (ms.map (rowMP w)))) := by
  refine mkFn (ps := ["moves", "width"]) (dvs := []) (dds := []) hK rfl (fun pm doc s vs _ h => ?_) Kds.nil (by decide) (fun L p hp => .inl ?_) fun pm doc L a X₀ => ?_
  · obtain ⟨v, u, rfl⟩ := len2 h
    exact .of_eq rfl
  · rcases List.mem_cons.mp hp with rfl | hp
    · rfl
    rw [List.mem_singleton.mp hp]; rfl
  simp only [envAt, callEnvC, fdOf, Calls.docDef, newEnv]
  conv in (fBody (fnAt 30)) => whnf
  conv in (fScope (fnAt 30)) => whnf
  conv in (cellsFrom _ _ _) => whnf
  refine Ex.cons (Ex1.assignL (ds := []) (.inl rfl) (fun X => EvL.list .nil (by decide)) ?_)
  refine Ex.cons (Ex1.for (ds := ms.map mvD) (R := fun i => [("page", .own (strD ((ms.take i).map (rowMP w)))), ("width", .fz (.int w))]) (fun X => EvI.list (Ev.name rfl)) (.cons rfl (.cons rfl .nil)) (fun i d hd => ?_) ?_)
  · rw [List.getElem?_map] at hd
    cases he : ms[i]? with
    | none => rw [he] at hd; cases hd
    | some m =>
      rw [he] at hd; cases hd
      obtain ⟨hst, harg, harl, hsl, hol, hnl, hpc, hpl⟩ := hN m (List.mem_of_getElem? he)
      refine ⟨_, fun X₁ => Asg.tuple (.cons (Asg.name (.inl rfl)) (.cons (Asg.name (.inl rfl)) (.cons (Asg.name (.inl rfl)) (.cons (Asg.name (.inl rfl)) .nil)))), fun X₁ => ?_⟩
      have hsum : ((m.st.map numText).map (·.length)).sum ≤ 100 * m.st.length := by
        have : ∀ l : List Int, (∀ v ∈ l, (numText v).length ≤ 100) → ((l.map numText).map (·.length)).sum ≤ 100 * l.length := by
          intro l
          induction l with
          | nil => intro _; simp
          | cons v l ih =>
            intro h
            have h1 := h v (.head _)
            have h2 := ih fun u hu => h u (.tail _ hu)
            simp at h2 ⊢; lia
        exact this m.st fun v hv => (hst v hv).2
      have e1 : (Str.ofString " ").length = 1 := rfl
      have hcl : (cellsT m.st).length ≤ 200000 := by
        have := StrLaws.join_length_le (" " : Str) (m.st.map numText)
        rw [e1] at this
        unfold cellsT
        rw [beq_iff_eq.mp (join_plain_closes _ _)]
        simp only [List.length_map] at this
        lia
      refine Ex.cons (Ex1.assign (d := .str (cellsT m.st)) (.inl rfl) (fun X => ?_) ?_)
      · refine Ev.meth (a := .str " ") Ev.str F.plainAttrs_str F.slot_str_join F.type_str_join (.cons (EvL.ev (EvL.congr (EvL.compMap (xs := m.st) (inj := .int) (F := fun v => .str (numText v)) (q := fun _ => true) (ρc := []) (cl := []) (EvI.list (Ev.name rfl)) (CompOk.map0 (szn (Nat.le_trans hsl (by decide))) fun v hv => ?_)) ?_)) .nil) (c_join (xs := m.st.map numText) ?_)
        · exact ⟨[("v", .fz (.int v))], fun C X₁ => Asg.name (.inl rfl), fun C X₁ X => rfl, fun _ C X₁ X => Ev.callT rfl B.str.1 B.str.2 (.cons (Ev.name rfl) .nil) (c_str_int (hst v hv).1)⟩
        · rw [map_tt, strD, List.map_map]; rfl
        · rw [e1]; simp only [List.length_map]; lia
      have hcut : (cutP w (cellsT m.st)).length ≤ 200010 := by
        unfold cutP
        split
        · rw [strLen_append]
          have := Txt.slice_le (cellsT m.st) (some (((cellsT m.st).length : Int) - w + 4)) none
          have e1 : (Str.ofString "... ").length = 4 := rfl
          lia
        · lia
      suffices rest : ∀ ρ : Rho, Sub [("cells", .fz (.str (cutP w (cellsT m.st)))), ("pc", .fz (.int (m.pc : Int))), ("ins", .fz (.tuple [.str m.op, .int m.arg])), ("note", .fz (.str m.note)), ("page", .own (strD ((ms.take i).map (rowMP w)))), ("width", .fz (.int w))] ρ → Ex g n X₁ _ ρ _ _ by
        refine Ex.cons (Ex1.ite (fun X => Tr.cp (Ev.callB rfl B.len.1 B.len.2 (.cons (Ev.name rfl) .nil) (c_len_str (Nat.le_trans hcl (by decide)))) (Ev.name rfl) cmp_gt) (fun hc => ?_) (fun hc => ?_))
        · refine Ex.cons (Ex1.assign (d := .str (cutP w (cellsT m.st))) (.inl rfl) (fun X => Ev.congr (Ev.op Ev.str (Ev.sliceFrom (Ev.name rfl) (Ev.op (Ev.op (Ev.callB rfl B.len.1 B.len.2 (.cons (Ev.name rfl) .nil) (c_len_str (Nat.le_trans hcl (by decide)))) (Ev.name rfl) op_sub) Ev.int op_add) (Nat.le_trans hcl (by decide))) (op_addS ?_)) ?_) ?_)
          · have := Txt.slice_le (cellsT m.st) (some (((cellsT m.st).length : Int) - w + 4)) none
            have e1 : (Str.ofString "... ").length = 4 := rfl
            rw [e1]; show _ ≤ 16777216; lia
          · unfold cutP; rw [if_pos (of_decide_eq_true hc)]
          · exact Ex.nil (rest _ (.cons rfl (.cons rfl (.cons rfl (.cons rfl (.cons rfl (.cons rfl .nil)))))))
        · refine Ex.nil (rest _ (.cons ?_ (.cons rfl (.cons rfl (.cons rfl (.cons rfl (.cons rfl .nil)))))))
          unfold cutP; rw [if_neg (of_decide_eq_false hc)]; rfl
      intro ρ hρ
      refine Ex.weak ?_ hρ
      clear hρ
      have hrow : (ms.take (i + 1)).map (rowMP w) = (ms.take i).map (rowMP w) ++ [rowMP w m] := by rw [List.take_add_one, he]; simp
      have hsz : (strD ((ms.take i).map (rowMP w))).length ≤ sizeLine := by simp [strD, sizeLine]; lia
      have r1 : (Txt.rjust (numText (m.pc : Int)) 6).length ≤ 10006 := by have := rjust_len (numText (m.pc : Int)) 6; exact Nat.le_trans this (by lia)
      have r2 : (Txt.ljust m.op 5).length ≤ 1005 := by have := ljust_len m.op 5; exact Nat.le_trans this (by lia)
      have r3 : (Txt.rjust (numText m.arg) 6).length ≤ 106 := by have := rjust_len (numText m.arg) 6; exact Nat.le_trans this (by lia)
      have e2 : (Str.ofString "  ").length = 2 := rfl
      have e3 : (Str.ofString "  [").length = 3 := rfl
      have e4 : (Str.ofString "]").length = 1 := rfl
      have e5 : (Str.ofString "  # ").length = 4 := rfl
      have hbl : (baseP w m).length ≤ 300000 := by
        unfold baseP
        simp only [strLen_append, e1, e2, e3, e4]
        clear hpc harg hst
        lia
      refine Ex.cons (Ex1.assign (d := .str (baseP w m)) (.inl rfl) (fun X => ?_) ?_)
      · clear hst
        refine Ev.op (Ev.op (Ev.op (Ev.op (Ev.op (Ev.op (Ev.op (Ev.meth (a := .str (numText (m.pc : Int))) (Ev.callT rfl B.str.1 B.str.2 (.cons (Ev.name rfl) .nil) (c_str_int hpc)) F.plainAttrs_str F.slot_str_rjust F.type_str_rjust (.cons Ev.int .nil) (c_rjust (by decide))) Ev.str (op_addS ?_)) (Ev.meth (a := .str m.op) (Ev.tab (i := 0) (Ev.name rfl) Ev.int rfl (show 2 ≤ 1000 by decide)) F.plainAttrs_str F.slot_str_ljust F.type_str_ljust (.cons Ev.int .nil) (c_ljust (by decide))) (op_addS ?_)) Ev.str (op_addS ?_)) (Ev.meth (a := .str (numText m.arg)) (Ev.callT rfl B.str.1 B.str.2 (.cons (Ev.tab (i := 1) (d := .int m.arg) (Ev.name rfl) Ev.int rfl (show 2 ≤ 1000 by decide)) .nil) (c_str_int harg)) F.plainAttrs_str F.slot_str_rjust F.type_str_rjust (.cons Ev.int .nil) (c_rjust (by decide))) (op_addS ?_)) Ev.str (op_addS ?_)) (Ev.name rfl) (op_addS ?_)) Ev.str (op_addS ?_)
        all_goals (clear hpc harg; simp only [strLen_append, e1, e2, e3, e4]; show _ ≤ 16777216; lia)
      refine Ex.cons (Ex1.ite (fun X => Tr.cp (Ev.name rfl) Ev.str cmp_neS) (fun hc => ?_) (fun hc => ?_))
      · refine Ex.cons (Ex1.assign (d := .str (rowMP w m)) (.inl rfl) (fun X => Ev.congr (Ev.op (Ev.op (Ev.name rfl) Ev.str (op_addS ?_)) (Ev.name rfl) (op_addS ?_)) ?_) ?_)
        · rw [e5]; show _ ≤ 16777216; lia
        · rw [strLen_append, e5]; show _ ≤ 16777216; lia
        · unfold rowMP; rw [if_pos hc]
        refine Ex.nil ?_
        refine Ex.cons (Ex1.mut (x := "page") (ds' := strD ((ms.take (i + 1)).map (rowMP w))) rfl F.slot_list_append F.type_list_append (args := [.str (rowMP w m)]) (fun X => .cons (Ev.name rfl) .nil) (by rw [hrow, strD_snoc]; exact mut_append hsz) ?_)
        exact Ex.nil (.cons rfl (.cons rfl .nil))
      · refine Ex.nil ?_
        refine Ex.cons (Ex1.mut (x := "page") (ds' := strD ((ms.take (i + 1)).map (rowMP w))) rfl F.slot_list_append F.type_list_append (args := [.str (rowMP w m)]) (fun X => .cons (Ev.congr (Ev.name rfl) ?_) .nil) (by rw [hrow, strD_snoc]; exact mut_append hsz) ?_)
        · unfold rowMP; rw [if_neg (by rw [hc]; exact Bool.false_ne_true)]
        exact Ex.nil (.cons rfl (.cons rfl .nil))
  · refine Ex.freeze (x := "page") rfl ?_
    refine Ex.cons (Ex1.ret (d := .list (strD (ms.map (rowMP w)))) (fun X => Ev.congr (Ev.name rfl) ?_) rfl)
    rw [List.length_map, List.take_length]

theorem f_kept {α : Type} {es : List α} {inj : α → PyData} {noteOf : α → Str} {names : List Str} {keep : Bool} (hK : FnK g 31 .none cd) (B : Blt g) (hes : es.length ≤ 1000)
    (hin : ∀ e ∈ es, (∃ ds k, inj e = .tuple ds ∧ seqIndex? (-1) ds.length = some k ∧ ds[k]? = some (.str (noteOf e))) ∧ (noteOf e).length ≤ 1000 ∧ (Txt.split (noteOf e) " = ").length ≤ 65536 ∧ 0 < (Txt.split (noteOf e) " = ").length) :
    FnC g (n + 1) "_law_kept" [.list (es.map inj), .list (strD names), .bool keep] (.list ((keptT noteOf names keep es).map inj)) := by
  refine mkFn (ps := ["shown", "names", "keep"]) (dvs := []) (dds := []) hK rfl (fun pm doc s vs _ h => ?_) Kds.nil (by decide) (fun L p hp => .inl ?_) fun pm doc L a X₀ => ?_
  · obtain ⟨v1, v2, v3, rfl⟩ := len3 h
    exact .of_eq rfl
  · rcases List.mem_cons.mp hp with rfl | hp
    · rfl
    rcases List.mem_cons.mp hp with rfl | hp
    · rfl
    rw [List.mem_singleton.mp hp]; rfl
  simp only [envAt, callEnvC, fdOf, Calls.docDef, newEnv]
  conv in (fBody (fnAt 31)) => whnf
  conv in (fScope (fnAt 31)) => whnf
  conv in (cellsFrom _ _ _) => whnf
  have hlen : (es.map inj).length ≤ sizeLine := by rw [List.length_map]; exact szn (Nat.le_trans hes (by decide))
  refine Ex.cons (Ex1.assignL (ds := []) (.inl rfl) (fun X => EvL.list .nil (by decide)) ?_)
  refine Ex.cons (Ex1.for (ds := rngD es.length) (R := fun i => [("kept", .own ((((es.zipIdx).take i).filter (keepsL noteOf names keep es.length)).map fun p => inj p.1)), ("shown", .fz (.list (es.map inj))), ("names", .fz (.list (strD names))), ("keep", .fz (.bool keep))]) (fun X => EvI.callT rfl B.range.1 B.range.2 (.cons (Ev.congr (Ev.callB rfl B.len.1 B.len.2 (.cons (Ev.name rfl) .nil) (c_len_list hlen)) (by rw [List.length_map])) .nil) (ci_range (szn (Nat.le_trans hes (by decide))))) (.cons rfl (.cons rfl (.cons rfl (.cons rfl .nil)))) (fun i d hd => ?_) ?_)
  · obtain ⟨hi, rfl⟩ := rngD_get hd
    have he := List.getElem?_eq_getElem hi
    obtain ⟨⟨ds, k, h1, h2, h3⟩, hn1, hn2, hn3⟩ := hin es[i] (List.getElem_mem hi)
    generalize hee : es[i] = e at *
    refine ⟨_, fun X₁ => Asg.name (.inl rfl), fun X₁ => ?_⟩
    have hstep : (((es.zipIdx).take (i + 1)).filter (keepsL noteOf names keep es.length)).map (fun p => inj p.1) = (((es.zipIdx).take i).filter (keepsL noteOf names keep es.length)).map (fun p => inj p.1) ++ (if keepsL noteOf names keep es.length (e, i) then [inj e] else []) := by
      have : (es.zipIdx)[i]? = some (e, i) := by rw [List.getElem?_zipIdx, he]; simp
      rw [List.take_add_one, this]
      cases hq : keepsL noteOf names keep es.length (e, i) <;> simp [hq]
    have hsz : ((((es.zipIdx).take i).filter (keepsL noteOf names keep es.length)).map fun p => inj p.1).length ≤ sizeLine := by
      rw [List.length_map]
      refine Nat.le_trans (List.length_filter_le _ _) (Nat.le_trans (by rw [List.length_take]; exact Nat.min_le_right _ _) ?_)
      rw [List.length_zipIdx]; exact szn (Nat.le_trans hes (by decide))
    have hidx : (es.map inj)[((i : Int)).toNat]? = some (inj e) := by rw [Int.toNat_natCast, List.getElem?_map, he]; rfl
    refine Ex.cons (Ex1.ite (c := keepsL noteOf names keep es.length (e, i)) (fun X => ?_) (fun hc => ?_) (fun hc => ?_))
    · refine Tr.or2 (Tr.cp (Ev.idxL (i := 0) (d := .str (headOf (noteOf e))) (EvL.ev (EvL.meth (a := .str (noteOf e)) (Ev.idxT (i := -1) (Ev.congr (Ev.idxL (i := (i : Int)) (Ev.name rfl) (Ev.name rfl) (by lia) (by lia) hidx) h1) (Ev.neg Ev.int) (by decide) (by decide) h2 h3) F.plainAttrs_str F.slot_str_split F.type_str_split (.cons Ev.str .nil) (c_split rfl (szn (Nat.le_trans hn1 (by decide))) (szn hn2)))) Ev.int (by decide) (by decide) ?_) (Ev.name rfl) cmp_inSL) fun _ => Tr.and2 (Tr.val (Ev.name rfl) tr_bool) fun _ => ?_
      · exact getD_map hn3
      · exact Tr.cp (Ev.name rfl) (Ev.op (Ev.congr (Ev.callB rfl B.len.1 B.len.2 (.cons (Ev.name rfl) .nil) (c_len_list hlen)) (by rw [List.length_map])) Ev.int op_sub) cmp_eq
    · rw [hc] at hstep
      refine Ex.cons (Ex1.mut (x := "kept") (ds' := (((es.zipIdx).take (i + 1)).filter (keepsL noteOf names keep es.length)).map (fun p => inj p.1)) rfl F.slot_list_append F.type_list_append (args := [inj e]) (fun X => .cons (Ev.idxL (i := (i : Int)) (Ev.name rfl) (Ev.name rfl) (by lia) (by lia) hidx) .nil) ?_ ?_)
      · rw [hstep]; exact mut_append hsz
      · exact Ex.nil (Ex.nil (.cons rfl (.cons rfl (.cons rfl (.cons rfl .nil)))))
    · rw [hc] at hstep
      refine Ex.nil (Ex.nil (.cons ?_ (.cons rfl (.cons rfl (.cons rfl .nil)))))
      rw [hstep]
      simp only [Bool.false_eq_true, if_false, List.append_nil]
      rfl
  · refine Ex.freeze (x := "kept") rfl ?_
    refine Ex.cons (Ex1.ret (d := .list ((keptT noteOf names keep es).map inj)) (fun X => Ev.congr (Ev.name rfl) ?_) rfl)
    rw [rngD_len, List.take_of_length_le (by rw [List.length_zipIdx]; exact Nat.le_refl _)]
    unfold keptT
    rw [List.map_map]; rfl

theorem f_rows (hK : FnK g 32 .none cd) (B : Blt g) {parts : List Str} {ws cs ts : List Int} (hp : parts.length ≤ 10000) (hw : ws.length ≤ 1000) (hc : ws.length ≤ cs.length) (ht : ws.length ≤ ts.length) :
    FnC g (n + 1) "_law_rows" [.list (strD parts), .list (intD ws), .list (intD cs), .list (intD ts)] (.list ((List.range parts.length).filterMap (rowAt parts ws cs ts))) := by
  refine mkFn (ps := ["parts", "wheres", "counts", "spent"]) (dvs := []) (dds := []) hK rfl (fun pm doc s vs _ h => ?_) Kds.nil (by decide) (fun L p hp => .inl ?_) fun pm doc L a X₀ => ?_
  · obtain ⟨v1, v2, v3, v4, rfl⟩ := len4 h
    exact .of_eq rfl
  · rcases List.mem_cons.mp hp with rfl | hp
    · rfl
    rcases List.mem_cons.mp hp with rfl | hp
    · rfl
    rcases List.mem_cons.mp hp with rfl | hp
    · rfl
    rw [List.mem_singleton.mp hp]; rfl
  simp only [envAt, callEnvC, fdOf, Calls.docDef, newEnv]
  conv in (fBody (fnAt 32)) => whnf
  conv in (fScope (fnAt 32)) => whnf
  conv in (cellsFrom _ _ _) => whnf
  have hlen : (strD parts).length ≤ sizeLine := by rw [strD, List.length_map]; exact szn (Nat.le_trans hp (by decide))
  have hlenE : ((strD parts).length : Int) = (parts.length : Int) := by simp [strD]
  refine Ex.cons (Ex1.assignL (ds := []) (.inl rfl) (fun X => EvL.list .nil (by decide)) ?_)
  refine Ex.cons (Ex1.for (ds := rngD parts.length) (R := fun i => [("rows", .own ((List.range i).filterMap (rowAt parts ws cs ts))), ("parts", .fz (.list (strD parts))), ("wheres", .fz (.list (intD ws))), ("counts", .fz (.list (intD cs))), ("spent", .fz (.list (intD ts)))]) (fun X => EvI.callT rfl B.range.1 B.range.2 (.cons (Ev.congr (Ev.callB rfl B.len.1 B.len.2 (.cons (Ev.name rfl) .nil) (c_len_list hlen)) (by rw [hlenE])) .nil) (ci_range (szn (Nat.le_trans hp (by decide))))) (.cons rfl (.cons rfl (.cons rfl (.cons rfl (.cons rfl .nil))))) (fun i d hd => ?_) ?_)
  · obtain ⟨hi, rfl⟩ := rngD_get hd
    refine ⟨_, fun X₁ => Asg.name (.inl rfl), fun X₁ => ?_⟩
    have hstep : (List.range (i + 1)).filterMap (rowAt parts ws cs ts) = (List.range i).filterMap (rowAt parts ws cs ts) ++ (rowAt parts ws cs ts i).toList := by
      rw [List.range_succ, List.filterMap_append]
      cases hq : rowAt parts ws cs ts i <;> simp [hq]
    have hsz : ((List.range i).filterMap (rowAt parts ws cs ts)).length ≤ sizeLine := Nat.le_trans (List.length_filterMap_le _ _) (by rw [List.length_range]; exact szn (by lia))
    have hpi : (strD parts)[((i : Int)).toNat]? = some (.str (parts.getD i "")) := by rw [Int.toNat_natCast]; exact getD_map hi
    refine Ex.cons (Ex1.ite (c := ws.contains ((i : Int) + 1)) (fun X => Tr.cp (Ev.op (Ev.name rfl) Ev.int op_add) (Ev.name rfl) cmp_inIL) (fun hcn => ?_) (fun hcn => ?_))
    · have hmem : (i : Int) + 1 ∈ ws := List.contains_iff_mem.mp hcn
      have hk : ws.idxOf ((i : Int) + 1) < ws.length := List.idxOf_lt_length_of_mem hmem
      generalize hkd : ws.idxOf ((i : Int) + 1) = k at *
      refine Ex.cons (Ex1.assign (d := .int (k : Int)) (.inl rfl) (fun X => Ev.meth (a := .list (intD ws)) (Ev.name rfl) F.plainAttrs_list F.slot_list_index F.type_list_index (.cons (Ev.op (Ev.name rfl) Ev.int op_add) .nil) (c_index ?_ (fun m hm q => ?_) (szn (Nat.le_trans hw (by decide))))) ?_)
      · rw [List.getElem?_eq_getElem hk]
        subst hkd
        rw [List.getElem_idxOf]
      · have h1 := (List.getElem?_eq_some_iff.mp q)
        obtain ⟨hml, hme⟩ := h1
        have h2 : m < ws.findIdx (· == (i : Int) + 1) := by
          have : ws.findIdx (· == (i : Int) + 1) = k := hkd
          lia
        have h3 := List.not_of_lt_findIdx h2
        rw [hme] at h3
        simp at h3
      have hrow : rowAt parts ws cs ts i = some (.tuple [.int ((i : Int) + 1), .str (parts.getD i ""), .int (cs.getD k 0), .int (ts.getD k 0)]) := by unfold rowAt; rw [if_pos hcn, hkd]
      rw [hrow] at hstep
      refine Ex.cons (Ex1.mut (x := "rows") (ds' := (List.range (i + 1)).filterMap (rowAt parts ws cs ts)) rfl F.slot_list_append F.type_list_append (args := [.tuple [.int ((i : Int) + 1), .str (parts.getD i ""), .int (cs.getD k 0), .int (ts.getD k 0)]]) (fun X => .cons (Ev.tuple (.cons (Ev.op (Ev.name rfl) Ev.int op_add) (.cons (Ev.idxL (i := (i : Int)) (Ev.name rfl) (Ev.name rfl) (by lia) (by lia) hpi) (.cons (Ev.idxL (i := (k : Int)) (Ev.name rfl) (Ev.name rfl) (by lia) (by lia) (by rw [Int.toNat_natCast]; exact getD_map (by lia))) (.cons (Ev.idxL (i := (k : Int)) (Ev.name rfl) (Ev.name rfl) (by lia) (by lia) (by rw [Int.toNat_natCast]; exact getD_map (by lia))) .nil)))) szl) .nil) (by rw [hstep]; exact mut_append hsz) ?_)
      exact Ex.nil (Ex.nil (.cons rfl (.cons rfl (.cons rfl (.cons rfl (.cons rfl .nil))))))
    refine Ex.cons (Ex1.ite (fun X => Tr.or2 (Tr.cp (Ev.op (Ev.name rfl) Ev.int op_add) (Ev.congr (Ev.callB rfl B.len.1 B.len.2 (.cons (Ev.name rfl) .nil) (c_len_list hlen)) (by rw [hlenE])) cmp_lt) fun _ => Tr.cp (Ev.idxL (i := (i : Int)) (Ev.name rfl) (Ev.name rfl) (by lia) (by lia) hpi) Ev.str cmp_neS) (fun hc2 => ?_) (fun hc2 => ?_))
    · have hrow : rowAt parts ws cs ts i = some (.tuple [.int ((i : Int) + 1), .str (parts.getD i ""), .none, .none]) := by unfold rowAt; rw [if_neg (by rw [hcn]; exact Bool.false_ne_true), if_pos hc2]
      rw [hrow] at hstep
      refine Ex.cons (Ex1.mut (x := "rows") (ds' := (List.range (i + 1)).filterMap (rowAt parts ws cs ts)) rfl F.slot_list_append F.type_list_append (args := [.tuple [.int ((i : Int) + 1), .str (parts.getD i ""), .none, .none]]) (fun X => .cons (Ev.tuple (.cons (Ev.op (Ev.name rfl) Ev.int op_add) (.cons (Ev.idxL (i := (i : Int)) (Ev.name rfl) (Ev.name rfl) (by lia) (by lia) hpi) (.cons Ev.noneC (.cons Ev.noneC .nil)))) szl) .nil) (by rw [hstep]; exact mut_append hsz) ?_)
      exact Ex.nil (Ex.nil (Ex.nil (.cons rfl (.cons rfl (.cons rfl (.cons rfl (.cons rfl .nil)))))))
    · have hrow : rowAt parts ws cs ts i = none := by unfold rowAt; rw [if_neg (by rw [hcn]; exact Bool.false_ne_true), if_neg (by rw [hc2]; exact Bool.false_ne_true)]
      rw [hrow] at hstep
      refine Ex.nil (Ex.nil (Ex.nil (.cons ?_ (.cons rfl (.cons rfl (.cons rfl (.cons rfl .nil)))))))
      rw [hstep]
      simp only [Option.toList, List.append_nil]; rfl
  · refine Ex.freeze (x := "rows") rfl ?_
    refine Ex.cons (Ex1.ret (d := .list ((List.range parts.length).filterMap (rowAt parts ws cs ts))) (fun X => Ev.congr (Ev.name rfl) ?_) rfl)
    rw [rngD_len]
end
end Mine
set_option Elab.async false
set_option maxRecDepth 100000
set_option linter.unusedVariables false
set_option tactic.hygienic false
namespace Mine
open PySem PyProof.Rows Builtin.Float

theorem depthAll_map {α : Type} {F : α → PyData} {k : Nat} : ∀ {xs : List α}, (∀ x ∈ xs, (F x).depth ≤ k) → PyData.depthAll (xs.map F) ≤ k
  | [], _ => Nat.zero_le _
  | x :: xs, h => by
    rw [List.map_cons, PyData.depthAll]
    have h1 := h x (.head _)
    have h2 := depthAll_map (xs := xs) fun y hy => h y (.tail _ hy)
    lia
theorem nodA_map {α : Type} {F : α → PyData} : ∀ {xs : List α}, (∀ x ∈ xs, nod (F x) = true) → nodA (xs.map F) = true
  | [], _ => rfl
  | x :: xs, h => by rw [List.map_cons, nodA, h x (.head _), nodA_map fun y hy => h y (.tail _ hy)]; rfl
/-- plain enough to be compared -/
noncomputable def Plain (d : PyData) : Prop := d.depth ≤ 40 ∧ nod d = true
theorem plain_of {d : PyData} {k : Nat} (h : d.depth ≤ k) (hk : k ≤ 40) (hn : nod d = true) : Plain d := ⟨Nat.le_trans h hk, hn⟩

noncomputable def sg (sc : List Int) (k : Nat) : Int := sc.getD k 0
noncomputable def qsOf (sc : List Int) : List (Int × Int) := [(sg sc 0, sg sc 1), (sg sc 2, sg sc 3), (sg sc 4, sg sc 5)].take (1 + md (sg sc 6) 3)
noncomputable def stOf (sc : List Int) : List PS := (qsOf sc).map progPS
noncomputable def txOf (sc : List Int) : List Str := (qsOf sc).map progT
noncomputable def tsOf (sc : List Int) : List Str := (txOf sc).take (md (sg sc 8) ((txOf sc).length + 1))
noncomputable def paOf (sc : List Int) : List Str := srcParts (sg sc 7) (tsOf sc)
noncomputable def wsOf (sc : List Int) : List Int := (srcAll (sg sc 7) (tsOf sc)).2
noncomputable def srcOf (sc : List Int) : Str := Txt.join "\n" (paOf sc)
noncomputable def mkOf (sc : List Int) : List Int := [sg sc 9, sg sc 10, sg sc 11].take (md (sg sc 12) 4)
noncomputable def evsOf (sc : List Int) : List (Nat × Str) := (mkOf sc).map (evOf (txOf sc).length)
noncomputable def offOf (sc : List Int) : Int := OFFS.getD (md (sg sc 13) 4) 0
noncomputable def lsOf (sc : List Int) : List Int := (wsOf sc).map (· + offOf sc)
noncomputable def pgOf (sc : List Int) : List Str := (evsOf sc).map (rowPage (lsOf sc) (txOf sc))
noncomputable def spOf (sc : List Int) : List (Int × Int) := [(sg sc 16, sg sc 18), (sg sc 17, sg sc 19)].take (md (sg sc 12) 3)
noncomputable def nsOf (sc : List Int) : List Int := [(md (sg sc 20) 7 : Int) - 3, (md (sg sc 21) 7 : Int) - 3, (md (sg sc 22) 7 : Int) - 3]
noncomputable def mvsOf (sc : List Int) : List Mv1 := (spOf sc).map (mvOf (nsOf sc))
noncomputable def wdOf (sc : List Int) : Int := if (md (sg sc 23) 3 : Int) == 0 then 60 else 5 + (md (sg sc 23) 8 : Int)
noncomputable def mpOf (sc : List Int) : List Str := (mvsOf sc).map (rowMP (wdOf sc))
noncomputable def nmOf (sc : List Int) : List Str := NAMES.getD (md (sg sc 14) 4) []
noncomputable def kpOf (sc : List Int) : Bool := (md (sg sc 14) 3 : Int) == 0
noncomputable def csOf (sc : List Int) : List Int := [sg sc 0, sg sc 1, sg sc 2].take (txOf sc).length
noncomputable def tmOf (sc : List Int) : List Int := [sg sc 3, sg sc 4, sg sc 5].take (txOf sc).length
noncomputable def rwOf (sc : List Int) : List PyData := (List.range (paOf sc).length).filterMap (rowAt (paOf sc) (wsOf sc) (csOf sc) (tmOf sc))
noncomputable def keE (sc : List Int) : List (Nat × Str) := keptT (·.2) (nmOf sc) (kpOf sc) (evsOf sc)
noncomputable def keM (sc : List Int) : List Mv1 := keptT (·.note) (nmOf sc) (kpOf sc) (mvsOf sc)

structure LawOk (g : G) (n : Nat) (sc : List Int) : Prop where
  prog : FnC g n "_law_program" [.list ((qsOf sc).map pairD)] (.tuple [.list ((stOf sc).map psD), .list (strD (txOf sc))])
  source : FnC g n "_law_source" [.list (strD (tsOf sc)), .int (sg sc 7)] (.tuple [.list (strD (paOf sc)), .list (intD (wsOf sc))])
  events : FnC g n "_law_events" [.list (intD (mkOf sc)), .int ((txOf sc).length : Int)] (.list ((evsOf sc).map evD))
  render0 : offOf sc = 0 → FnC g n "render" [.str (srcOf sc), .list ((stOf sc).map psD), .list ((evsOf sc).map evD)] (.list (strD (pgOf sc)))
  render1 : FnC g n "render" [.str (srcOf sc), .list ((stOf sc).map psD), .list ((evsOf sc).map evD), .int (offOf sc)] (.list (strD (pgOf sc)))
  page : FnC g n "_law_page" [.list (strD (txOf sc)), .list (intD (wsOf sc)), .list ((evsOf sc).map evD), .int (offOf sc)] (.list (strD (pgOf sc)))
  moves : FnC g n "_law_moves" [.list ((spOf sc).map pairD), .list (intD (nsOf sc))] (.list ((mvsOf sc).map mvD))
  mach0 : wdOf sc = 60 → FnC g n "render_machine" [.list ((mvsOf sc).map mvD)] (.list (strD (mpOf sc)))
  mach1 : FnC g n "render_machine" [.list ((mvsOf sc).map mvD), .int (wdOf sc)] (.list (strD (mpOf sc)))
  mpage : FnC g n "_law_machine_page" [.list ((mvsOf sc).map mvD), .int (wdOf sc)] (.list (strD (mpOf sc)))
  watchE : FnC g n "watched" [.list ((evsOf sc).map evD), .list (strD (nmOf sc)), .bool (kpOf sc)] (.list ((keE sc).map evD))
  keptE : FnC g n "_law_kept" [.list ((evsOf sc).map evD), .list (strD (nmOf sc)), .bool (kpOf sc)] (.list ((keE sc).map evD))
  watchM : FnC g n "watched" [.list ((mvsOf sc).map mvD), .list (strD (nmOf sc)), .bool (kpOf sc)] (.list ((keM sc).map mvD))
  keptM : FnC g n "_law_kept" [.list ((mvsOf sc).map mvD), .list (strD (nmOf sc)), .bool (kpOf sc)] (.list ((keM sc).map mvD))
  byline : FnC g n "by_line" [.str (srcOf sc), .list (intD (csOf sc)), .list (intD (tmOf sc))] (.list (rwOf sc))
  rows : FnC g n "_law_rows" [.list (strD (paOf sc)), .list (intD (wsOf sc)), .list (intD (csOf sc)), .list (intD (tmOf sc))] (.list (rwOf sc))
  atLine : ∀ line, FnC g n "statement_at_line" [.str (srcOf sc), .int line] (firstFrom (wsOf sc) line)
  first : ∀ line, FnC g n "_law_first_from" [.list (intD (wsOf sc)), .int line] (firstFrom (wsOf sc) line)
  join : ((paOf sc).map (·.length)).sum + (paOf sc).length ≤ 1000000
  txl : (txOf sc).length ≤ 3

theorem rowAt_is {parts : List Str} {ws cs ts : List Int} {i : Nat} {d : PyData} (h : rowAt parts ws cs ts i = some d) : ∃ j x a b, d = .tuple [.int j, .str x, a, b] ∧ Scalar a ∧ Scalar b := by
  unfold rowAt at h
  split at h
  · cases h; exact ⟨_, _, _, _, rfl, trivial, trivial⟩
  · split at h
    · cases h; exact ⟨_, _, _, _, rfl, trivial, trivial⟩
    · cases h
theorem scalar_depth {d : PyData} (h : Scalar d) : d.depth = 0 ∧ nod d = true := by
  cases d with
  | none => exact ⟨rfl, rfl⟩
  | bool => exact ⟨rfl, rfl⟩
  | int => exact ⟨rfl, rfl⟩
  | str => exact ⟨rfl, rfl⟩
  | list => exact h.elim
  | tuple => exact h.elim
  | dict => exact h.elim
theorem plain_strs (l : List Str) : Plain (.list (strD l)) := ⟨by
    rw [PyData.depth]
    have := depthAll_map (F := PyData.str) (xs := l) (k := 0) fun x _ => Nat.le_refl _
    show _ ≤ _
    rw [strD]; lia, by rw [nod, strD]; exact nodA_map fun _ _ => rfl⟩
theorem plain_ints (l : List Int) : Plain (.list (intD l)) := ⟨by
    rw [PyData.depth]
    have := depthAll_map (F := PyData.int) (xs := l) (k := 0) fun x _ => Nat.le_refl _
    rw [intD]; lia, by rw [nod, intD]; exact nodA_map fun _ _ => rfl⟩
theorem plain_evs (l : List (Nat × Str)) : Plain (.list (l.map evD)) := ⟨by
    rw [PyData.depth]
    have := depthAll_map (F := evD) (xs := l) (k := 1) fun x _ => Nat.le_refl _
    lia, by rw [nod]; exact nodA_map fun _ _ => rfl⟩
theorem mv_depth (m : Mv1) : (mvD m).depth ≤ 5 ∧ nod (mvD m) = true := by
  have h1 := plain_ints m.st
  have h2 : (PyData.list (intD m.st)).depth ≤ 1 := by
    rw [PyData.depth]
    have := depthAll_map (F := PyData.int) (xs := m.st) (k := 0) fun x _ => Nat.le_refl _
    rw [intD]; lia
  refine ⟨?_, ?_⟩
  · simp only [mvD, PyData.depth, PyData.depthAll] at h2 ⊢
    lia
  · simp only [mvD, nod, nodA, Bool.true_and, Bool.and_true]
    have := h1.2
    rw [nod] at this
    exact this
theorem plain_mvs (l : List Mv1) : Plain (.list (l.map mvD)) := ⟨by
    rw [PyData.depth]
    have := depthAll_map (F := mvD) (xs := l) (k := 5) fun x _ => (mv_depth x).1
    lia, by rw [nod]; exact nodA_map fun x _ => (mv_depth x).2⟩
theorem ps_depth (s : PS) : (psD s).depth ≤ 5 ∧ nod (psD s) = true := by
  have h2 : PyData.depthAll (s.ts.map tokD) ≤ 1 := depthAll_map fun x _ => Nat.le_refl _
  have h3 : nodA (s.ts.map tokD) = true := nodA_map fun x _ => rfl
  refine ⟨?_, ?_⟩
  · simp only [psD, PyData.depth, PyData.depthAll] at h2 ⊢
    lia
  · simp only [psD, nod, nodA, Bool.true_and, Bool.and_true, h3]
theorem plain_pss (l : List PS) : Plain (.list (l.map psD)) := ⟨by
    rw [PyData.depth]
    have := depthAll_map (F := psD) (xs := l) (k := 5) fun x _ => (ps_depth x).1
    lia, by rw [nod]; exact nodA_map fun x _ => (ps_depth x).2⟩
theorem plain_rows (sc : List Int) : Plain (.list (rwOf sc)) := by
  have key : ∀ d ∈ rwOf sc, d.depth ≤ 1 ∧ nod d = true := fun d hd => by
    obtain ⟨i, _, h⟩ := List.mem_filterMap.mp hd
    obtain ⟨j, x, a, b, rfl, ha, hb⟩ := rowAt_is h
    have h1 := scalar_depth ha
    have h2 := scalar_depth hb
    refine ⟨?_, ?_⟩
    · simp only [PyData.depth, PyData.depthAll, h1.1, h2.1]; decide
    · simp only [nod, nodA, h1.2, h2.2]; rfl
  have e : rwOf sc = (rwOf sc).map id := by simp
  rw [e]
  exact ⟨by
    rw [PyData.depth]
    have := depthAll_map (F := id) (xs := rwOf sc) (k := 1) fun x hx => (key x hx).1
    lia, by rw [nod]; exact nodA_map fun x hx => (key x hx).2⟩
theorem plain_first (ws : List Int) (line : Int) : Plain (firstFrom ws line) := by
  unfold firstFrom
  cases ws.findIdx? (fun w => decide (w ≥ line)) <;> exact ⟨Nat.zero_le _, rfl⟩

section
variable {g : G} {n : Nat} {X₀ X : List Addr} {env : Env} {ρ : Rho} {d : PyData} {l r e : Expr} {pos p q p2 : Pos} {f f2 : Str}
/-- the same datum, twice -/
theorem Tr.ne (hl : Ev g n X₀ X env ρ l d) (hr : Ev g n X₀ X env ρ r d) (hd : Plain d) (hm : behindInMarks .NotEq r = false := by with_unfolding_all rfl) : Tr g n X₀ X env ρ (.Compare l [.NotEq] [r] pos) false := Tr.cp hl hr (cmp_neq_same (Nat.le_trans hd.1 (by decide)) hd.2) hm
theorem Ev.sc {sc : List Int} {x : Str} {k : Nat} {i : Int} {kk : Nat} (hx : ρ.lookup x = some (.fz (.list (intD sc)))) (hk : k < sc.length) (hi : i = (k : Int)) (hb : k < 2 ^ 62) (hd : ((x == ("__debug__" : Str)) || (x == ("__classdict__" : Str))) = false := by decide) : Ev g n X₀ X env ρ (.Subscript (.Name x p) (.Constant (.int i) kk q) pos) (.int (sg sc k)) := by
  subst hi
  exact Ev.idxL (i := (k : Int)) (Ev.name hx hd) Ev.int (by lia) (by lia) (by rw [Int.toNat_natCast]; exact getD_map hk)
end
end Mine
set_option Elab.async false
set_option maxRecDepth 100000
set_option linter.unusedVariables false
set_option tactic.hygienic false
namespace Mine
open PySem PyProof.Rows Builtin.Float

section
variable {g : G} {n : Nat} {cd : Value}


variable {X₀ X : List Addr} {env : Env} {ρ : Rho} {sc : List Int}
theorem evE (B : Blt g) (H : LawOk g n sc) {p1 p2 p3 p4 p5 p6 : Pos} (k1 : env.kindOf "_law_events" = some .globalImplicit) (k2 : env.kindOf "len" = some .globalImplicit) (h1 : List.lookup ("marks" : Str) ρ = some (.fz (.list (intD (mkOf sc))))) (h2 : List.lookup ("texts" : Str) ρ = some (.fz (.list (strD (txOf sc))))) :
    Ev g n X₀ X env ρ (.Call (.Name "_law_events" p1) [.Name "marks" p2, .Call (.Name "len" p3) [.Name "texts" p4] [] p5] [] p6) (.list ((evsOf sc).map evD)) :=
  Ev.call H.events k1 (.cons (Ev.name h1) (.cons (Ev.congr (Ev.callB k2 B.len.1 B.len.2 (.cons (Ev.name h2) .nil) (c_len_list (by rw [strD, List.length_map]; exact Nat.le_trans H.txl (by decide)))) (by simp [strD])) .nil))
theorem mvE (H : LawOk g n sc) {p1 p2 p3 p4 : Pos} (k1 : env.kindOf "_law_moves" = some .globalImplicit) (h1 : List.lookup ("steps" : Str) ρ = some (.fz (.list ((spOf sc).map pairD)))) (h2 : List.lookup ("numbers" : Str) ρ = some (.fz (.list (intD (nsOf sc))))) :
    Ev g n X₀ X env ρ (.Call (.Name "_law_moves" p1) [.Name "steps" p2, .Name "numbers" p3] [] p4) (.list ((mvsOf sc).map mvD)) :=
  Ev.call H.moves k1 (.cons (Ev.name h1) (.cons (Ev.name h2) .nil))
theorem nmE (D : Dat g) (h24 : 24 ≤ sc.length) {p1 p2 p3 p4 p5 p6 p7 : Pos} {j1 j2 : Nat} (k1 : env.kindOf "_law_NAMES" = some .globalImplicit) (h : List.lookup ("script" : Str) ρ = some (.fz (.list (intD sc)))) :
    Ev g n X₀ X env ρ (.Subscript (.Name "_law_NAMES" p1) (.BinOp (.Subscript (.Name "script" p2) (.Constant (.int 14) j1 p3) p4) .Mod (.Constant (.int 4) j2 p5) p6) p7) (.list (strD (nmOf sc))) :=
  Ev.tab (Ev.gd D.names k1) (Ev.md (k := 4) (Ev.sc (k := 14) h (ar_lt 24 h24) rfl (by decide)) Ev.int rfl (by decide)) (getD_map (md_lt _ (by decide))) (by decide)
theorem csE (B : Blt g) (H : LawOk g n sc) (h24 : 24 ≤ sc.length) {a0 a1 a2 b0 b1 b2 c0 c1 c2 d0 d1 d2 d3 d4 d5 : Pos} {j0 j1 j2 : Nat} (k2 : env.kindOf "len" = some .globalImplicit) (h1 : List.lookup ("script" : Str) ρ = some (.fz (.list (intD sc)))) (h2 : List.lookup ("texts" : Str) ρ = some (.fz (.list (strD (txOf sc))))) :
    EvL g n X₀ X env ρ (.Subscript (.List [.Subscript (.Name "script" a0) (.Constant (.int 0) j0 b0) c0, .Subscript (.Name "script" a1) (.Constant (.int 1) j1 b1) c1, .Subscript (.Name "script" a2) (.Constant (.int 2) j2 b2) c2] d0) (.Slice none (some (.Call (.Name "len" d1) [.Name "texts" d2] [] d3)) none d4) d5) (intD (csOf sc)) :=
  EvL.congr (EvL.upto (k := (txOf sc).length) (ds := [.int (sg sc 0), .int (sg sc 1), .int (sg sc 2)]) (EvL.ev (EvL.list (.cons (Ev.sc (k := 0) h1 (ar_lt 24 h24) rfl (by decide)) (.cons (Ev.sc (k := 1) h1 (ar_lt 24 h24) rfl (by decide)) (.cons (Ev.sc (k := 2) h1 (ar_lt 24 h24) rfl (by decide)) .nil))) szl)) (Ev.congr (Ev.callB k2 B.len.1 B.len.2 (.cons (Ev.name h2) .nil) (c_len_list (by rw [strD, List.length_map]; exact Nat.le_trans H.txl (by decide)))) (by simp [strD])) szl) (by rw [csOf, intD, List.map_take]; rfl)
theorem tmE (B : Blt g) (H : LawOk g n sc) (h24 : 24 ≤ sc.length) {a0 a1 a2 b0 b1 b2 c0 c1 c2 d0 d1 d2 d3 d4 d5 : Pos} {j0 j1 j2 : Nat} (k2 : env.kindOf "len" = some .globalImplicit) (h1 : List.lookup ("script" : Str) ρ = some (.fz (.list (intD sc)))) (h2 : List.lookup ("texts" : Str) ρ = some (.fz (.list (strD (txOf sc))))) :
    EvL g n X₀ X env ρ (.Subscript (.List [.Subscript (.Name "script" a0) (.Constant (.int 3) j0 b0) c0, .Subscript (.Name "script" a1) (.Constant (.int 4) j1 b1) c1, .Subscript (.Name "script" a2) (.Constant (.int 5) j2 b2) c2] d0) (.Slice none (some (.Call (.Name "len" d1) [.Name "texts" d2] [] d3)) none d4) d5) (intD (tmOf sc)) :=
  EvL.congr (EvL.upto (k := (txOf sc).length) (ds := [.int (sg sc 3), .int (sg sc 4), .int (sg sc 5)]) (EvL.ev (EvL.list (.cons (Ev.sc (k := 3) h1 (ar_lt 24 h24) rfl (by decide)) (.cons (Ev.sc (k := 4) h1 (ar_lt 24 h24) rfl (by decide)) (.cons (Ev.sc (k := 5) h1 (ar_lt 24 h24) rfl (by decide)) .nil))) szl)) (Ev.congr (Ev.callB k2 B.len.1 B.len.2 (.cons (Ev.name h2) .nil) (c_len_list (by rw [strD, List.length_map]; exact Nat.le_trans H.txl (by decide)))) (by simp [strD])) szl) (by rw [tmOf, intD, List.map_take]; rfl)

theorem f_law (hK : FnK g 34 .none cd) (B : Blt g) (D : Dat g) (hb : sc.length ≤ 2 ^ 20) (H : 24 ≤ sc.length → LawOk g n sc) : FnC g (n + 1) "law" [.list (intD sc)] (.bool true) := by
  refine mkFn (ps := ["script"]) (dvs := []) (dds := []) hK rfl (fun pm doc s vs _ h => ?_) Kds.nil (by decide) (fun L p hp => .inl (by rw [List.mem_singleton.mp hp]; rfl)) fun pm doc L a X₀ => ?_
  · obtain ⟨v, rfl⟩ := len1 h
    exact .of_eq rfl
  simp only [envAt, callEnvC, fdOf, Calls.docDef, newEnv]
  conv in (fBody (fnAt 34)) => whnf
  conv in (fScope (fnAt 34)) => whnf
  conv in (cellsFrom _ _ _) => whnf
  have hll : (intD sc).length ≤ sizeLine := by rw [intD, List.length_map]; exact Nat.le_trans hb (by decide)
  have hle : ((intD sc).length : Int) = (sc.length : Int) := by simp [intD]
  refine Ex.cons (Ex1.ite (fun X => Tr.cp (Ev.callB rfl B.len.1 B.len.2 (.cons (Ev.name rfl) .nil) (c_len_list hll)) Ev.int cmp_lt) (fun hc => ?_) (fun hc => ?_))
  · exact Ex.cons (Ex1.ret (d := .bool true) (fun X => Ev.bool) rfl)
  have h24 : 24 ≤ sc.length := by have := of_decide_eq_false hc; rw [hle] at this; lia
  have H := H h24
  clear hc
  refine Ex.nil ?_
  -- pairs
  refine Ex.cons (Ex1.assign (d := .list ((qsOf sc).map pairD)) (.inl rfl) (fun X => EvL.ev (EvL.congr (EvL.upto (k := 1 + md (sg sc 6) 3) (ds := [pairD (sg sc 0, sg sc 1), pairD (sg sc 2, sg sc 3), pairD (sg sc 4, sg sc 5)]) (EvL.ev (EvL.list (.cons (Ev.tuple (.cons (Ev.sc (k := 0) rfl (ar_lt 24 h24) rfl (by decide)) (.cons (Ev.sc (k := 1) rfl (ar_lt 24 h24) rfl (by decide)) .nil)) szl) (.cons (Ev.tuple (.cons (Ev.sc (k := 2) rfl (ar_lt 24 h24) rfl (by decide)) (.cons (Ev.sc (k := 3) rfl (ar_lt 24 h24) rfl (by decide)) .nil)) szl) (.cons (Ev.tuple (.cons (Ev.sc (k := 4) rfl (ar_lt 24 h24) rfl (by decide)) (.cons (Ev.sc (k := 5) rfl (ar_lt 24 h24) rfl (by decide)) .nil)) szl) .nil))) szl)) (Ev.congr (Ev.op Ev.int (Ev.md (k := 3) (Ev.sc (k := 6) rfl (ar_lt 24 h24) rfl (by decide)) Ev.int rfl (by decide)) op_add) (by rw [Int.natCast_add]; rfl)) szl) (by rw [qsOf, List.map_take]; rfl))) ?_)
  refine Ex.cons (Ex1.assignT (ds := [.list ((stOf sc).map psD), .list (strD (txOf sc))]) (fun X => Ev.call H.prog rfl (.cons (Ev.name rfl) .nil)) (.cons (Asg.name (.inl rfl)) (.cons (Asg.name (.inl rfl)) .nil)) ?_)
  have htl : (strD (txOf sc)).length ≤ sizeLine := by rw [strD, List.length_map]; exact Nat.le_trans H.txl (by decide)
  have htE : ((strD (txOf sc)).length : Int) = ((txOf sc).length : Int) := by simp [strD]
  refine Ex.cons (Ex1.assignT (ds := [.list (strD (paOf sc)), .list (intD (wsOf sc))]) (fun X => Ev.call H.source rfl (.cons (EvL.ev (EvL.congr (EvL.upto (k := md (sg sc 8) ((txOf sc).length + 1)) (ds := strD (txOf sc)) (Ev.name rfl) (Ev.md (Ev.sc (k := 8) rfl (ar_lt 24 h24) rfl (by decide)) (Ev.op (Ev.congr (Ev.callB rfl B.len.1 B.len.2 (.cons (Ev.name rfl) .nil) (c_len_list htl)) (by rw [htE])) Ev.int op_add) (by rw [Int.natCast_add]; rfl) (by lia)) htl) (by rw [tsOf, strD, strD, List.map_take]))) (.cons (Ev.sc (k := 7) rfl (ar_lt 24 h24) rfl (by decide)) .nil))) (.cons (Asg.name (.inl rfl)) (.cons (Asg.name (.inl rfl)) .nil)) ?_)
  refine Ex.cons (Ex1.assign (d := .str (srcOf sc)) (.inl rfl) (fun X => Ev.meth (a := .str "\n") Ev.str F.plainAttrs_str F.slot_str_join F.type_str_join (.cons (Ev.name rfl) .nil) (c_join (xs := paOf sc) ?_)) ?_)
  · have : (Str.ofString "\n").length = 1 := rfl
    have hj := H.join
    rw [this]; lia
  refine Ex.cons (Ex1.assign (d := .list (intD (mkOf sc))) (.inl rfl) (fun X => EvL.ev (EvL.congr (EvL.upto (k := md (sg sc 12) 4) (ds := [.int (sg sc 9), .int (sg sc 10), .int (sg sc 11)]) (EvL.ev (EvL.list (.cons (Ev.sc (k := 9) rfl (ar_lt 24 h24) rfl (by decide)) (.cons (Ev.sc (k := 10) rfl (ar_lt 24 h24) rfl (by decide)) (.cons (Ev.sc (k := 11) rfl (ar_lt 24 h24) rfl (by decide)) .nil))) szl)) (Ev.md (k := 4) (Ev.sc (k := 12) rfl (ar_lt 24 h24) rfl (by decide)) Ev.int rfl (by decide)) szl) (by rw [mkOf, intD, List.map_take]; rfl))) ?_)
  refine Ex.cons (Ex1.assign (d := .list ((evsOf sc).map evD)) (.inl rfl) (fun X => evE B H rfl rfl rfl rfl) ?_)
  refine Ex.cons (Ex1.assign (d := .int (offOf sc)) (.inl rfl) (fun X => Ev.tab (Ev.gd D.offs) (Ev.md (k := 4) (Ev.sc (k := 13) rfl (ar_lt 24 h24) rfl (by decide)) Ev.int rfl (by decide)) (getD_map (md_lt _ (by decide))) (by decide)) ?_)
  suffices rest : ∀ ρ : Rho, Sub [("page", .fz (.list (strD (pgOf sc)))), ("offset", .fz (.int (offOf sc))), ("events", .fz (.list ((evsOf sc).map evD))), ("marks", .fz (.list (intD (mkOf sc)))), ("src", .fz (.str (srcOf sc))), ("parts", .fz (.list (strD (paOf sc)))), ("wheres", .fz (.list (intD (wsOf sc)))), ("stmts", .fz (.list ((stOf sc).map psD))), ("texts", .fz (.list (strD (txOf sc)))), ("pairs", .fz (.list ((qsOf sc).map pairD))), ("script", .fz (.list (intD sc)))] ρ → Ex g n X₀ _ ρ _ _ by
    refine Ex.cons (Ex1.ite (fun X => Tr.cp (Ev.name rfl) Ev.int cmp_eq) (fun hc => ?_) (fun hc => ?_))
    · refine Ex.cons (Ex1.assign (d := .list (strD (pgOf sc))) (.inl rfl) (fun X => Ev.call (H.render0 (beq_iff_eq.mp hc)) rfl (.cons (Ev.name rfl) (.cons (Ev.name rfl) (.cons (Ev.name rfl) .nil)))) ?_)
      exact Ex.nil (rest _ (.cons rfl (.cons rfl (.cons rfl (.cons rfl (.cons rfl (.cons rfl (.cons rfl (.cons rfl (.cons rfl (.cons rfl (.cons rfl .nil))))))))))))
    · refine Ex.cons (Ex1.assign (d := .list (strD (pgOf sc))) (.inl rfl) (fun X => Ev.call H.render1 rfl (.cons (Ev.name rfl) (.cons (Ev.name rfl) (.cons (Ev.name rfl) (.cons (Ev.name rfl) .nil))))) ?_)
      exact Ex.nil (rest _ (.cons rfl (.cons rfl (.cons rfl (.cons rfl (.cons rfl (.cons rfl (.cons rfl (.cons rfl (.cons rfl (.cons rfl (.cons rfl .nil))))))))))))
  intro ρ hρ
  refine Ex.weak ?_ hρ
  clear hρ
  refine Ex.cons (Ex1.ite (c := false) (fun X => Tr.or2 (p := false) (typeTest (T := "list") rfl B.type.1 B.type.2 rfl B.list.1 B.list.2 (.cons (Ev.name rfl) .nil) fun A s Q h => isNotT h) fun _ => Tr.ne (Ev.name rfl) (Ev.call H.page rfl (.cons (Ev.name rfl) (.cons (Ev.name rfl) (.cons (evE B H rfl rfl rfl rfl) (.cons (Ev.name rfl) .nil))))) (plain_strs _)) (fun hc => (nomatch hc)) (fun _ => ?_))
  refine Ex.nil ?_
  refine Ex.cons (Ex1.assign (d := .list ((spOf sc).map pairD)) (.inl rfl) (fun X => EvL.ev (EvL.congr (EvL.upto (k := md (sg sc 12) 3) (ds := [pairD (sg sc 16, sg sc 18), pairD (sg sc 17, sg sc 19)]) (EvL.ev (EvL.list (.cons (Ev.tuple (.cons (Ev.sc (k := 16) rfl (ar_lt 24 h24) rfl (by decide)) (.cons (Ev.sc (k := 18) rfl (ar_lt 24 h24) rfl (by decide)) .nil)) szl) (.cons (Ev.tuple (.cons (Ev.sc (k := 17) rfl (ar_lt 24 h24) rfl (by decide)) (.cons (Ev.sc (k := 19) rfl (ar_lt 24 h24) rfl (by decide)) .nil)) szl) .nil)) szl)) (Ev.md (k := 3) (Ev.sc (k := 12) rfl (ar_lt 24 h24) rfl (by decide)) Ev.int rfl (by decide)) szl) (by rw [spOf, List.map_take]; rfl))) ?_)
  refine Ex.cons (Ex1.assign (d := .list (intD (nsOf sc))) (.inl rfl) (fun X => EvL.ev (EvL.list (.cons (Ev.op (Ev.md (k := 7) (Ev.sc (k := 20) rfl (ar_lt 24 h24) rfl (by decide)) Ev.int rfl (by decide)) Ev.int op_sub) (.cons (Ev.op (Ev.md (k := 7) (Ev.sc (k := 21) rfl (ar_lt 24 h24) rfl (by decide)) Ev.int rfl (by decide)) Ev.int op_sub) (.cons (Ev.op (Ev.md (k := 7) (Ev.sc (k := 22) rfl (ar_lt 24 h24) rfl (by decide)) Ev.int rfl (by decide)) Ev.int op_sub) .nil))) (show 3 ≤ 16777216 by decide))) ?_)
  refine Ex.cons (Ex1.assign (d := .list ((mvsOf sc).map mvD)) (.inl rfl) (fun X => Ev.call H.moves rfl (.cons (Ev.name rfl) (.cons (Ev.name rfl) .nil))) ?_)
  suffices rest : ∀ ρ : Rho, Sub [("page", .fz (.list (strD (mpOf sc)))), ("width", .fz (.int (wdOf sc))), ("moves", .fz (.list ((mvsOf sc).map mvD))), ("steps", .fz (.list ((spOf sc).map pairD))), ("numbers", .fz (.list (intD (nsOf sc)))), ("events", .fz (.list ((evsOf sc).map evD))), ("marks", .fz (.list (intD (mkOf sc)))), ("src", .fz (.str (srcOf sc))), ("parts", .fz (.list (strD (paOf sc)))), ("wheres", .fz (.list (intD (wsOf sc)))), ("stmts", .fz (.list ((stOf sc).map psD))), ("texts", .fz (.list (strD (txOf sc)))), ("pairs", .fz (.list ((qsOf sc).map pairD))), ("script", .fz (.list (intD sc)))] ρ → Ex g n X₀ _ ρ _ _ by
    refine Ex.cons (Ex1.ite (fun X => Tr.cp (Ev.md (k := 3) (Ev.sc (k := 23) rfl (ar_lt 24 h24) rfl (by decide)) Ev.int rfl (by decide)) Ev.int cmp_eq) (fun hc => ?_) (fun hc => ?_))
    · have hw : wdOf sc = 60 := by unfold wdOf; rw [if_pos hc]
      refine Ex.cons (Ex1.assign (d := .int (wdOf sc)) (.inl rfl) (fun X => Ev.congr Ev.int (by rw [hw])) ?_)
      refine Ex.cons (Ex1.assign (d := .list (strD (mpOf sc))) (.inl rfl) (fun X => Ev.call (H.mach0 hw) rfl (.cons (Ev.name rfl) .nil)) ?_)
      exact Ex.nil (rest _ (.cons rfl (.cons rfl (.cons rfl (.cons rfl (.cons rfl (.cons rfl (.cons rfl (.cons rfl (.cons rfl (.cons rfl (.cons rfl (.cons rfl (.cons rfl (.cons rfl .nil)))))))))))))))
    · have hw : wdOf sc = 5 + (md (sg sc 23) 8 : Int) := by unfold wdOf; rw [if_neg (by rw [hc]; exact Bool.false_ne_true)]
      refine Ex.cons (Ex1.assign (d := .int (wdOf sc)) (.inl rfl) (fun X => Ev.congr (Ev.op Ev.int (Ev.md (k := 8) (Ev.sc (k := 23) rfl (ar_lt 24 h24) rfl (by decide)) Ev.int rfl (by decide)) op_add) (by rw [hw])) ?_)
      refine Ex.cons (Ex1.assign (d := .list (strD (mpOf sc))) (.inl rfl) (fun X => Ev.call H.mach1 rfl (.cons (Ev.name rfl) (.cons (Ev.name rfl) .nil))) ?_)
      exact Ex.nil (rest _ (.cons rfl (.cons rfl (.cons rfl (.cons rfl (.cons rfl (.cons rfl (.cons rfl (.cons rfl (.cons rfl (.cons rfl (.cons rfl (.cons rfl (.cons rfl (.cons rfl .nil)))))))))))))))
  intro ρ hρ
  refine Ex.weak ?_ hρ
  clear hρ
  refine Ex.cons (Ex1.ite (c := false) (fun X => Tr.or2 (p := false) (typeTest (T := "list") rfl B.type.1 B.type.2 rfl B.list.1 B.list.2 (.cons (Ev.name rfl) .nil) fun A s Q h => isNotT h) fun _ => Tr.ne (Ev.name rfl) (Ev.call H.mpage rfl (.cons (mvE H rfl rfl rfl) (.cons (Ev.name rfl) .nil))) (plain_strs _)) (fun hc => (nomatch hc)) (fun _ => ?_))
  refine Ex.nil ?_
  have hnl : (strD (nmOf sc)).length ≤ sizeLine := by
    have h1 := md_lt (sg sc 14) (k := 4) (by decide)
    rw [strD, List.length_map, nmOf]
    generalize md (sg sc 14) 4 = i at *
    have : ∀ i < 4, (NAMES.getD i []).length ≤ 16777216 := by decide
    exact this i h1
  refine Ex.cons (Ex1.assign (d := .list (strD (nmOf sc))) (.inl rfl) (fun X => EvL.ev (EvL.callT rfl B.list.1 B.list.2 (.cons (nmE D h24 rfl rfl) .nil) (cl_list hnl))) ?_)
  refine Ex.cons (Ex1.assign (d := .bool (kpOf sc)) (.inl rfl) (fun X => Ev.cp (Ev.md (k := 3) (Ev.sc (k := 14) rfl (ar_lt 24 h24) rfl (by decide)) Ev.int rfl (by decide)) Ev.int cmp_eq) ?_)
  refine Ex.cons (Ex1.for (ds := [.list ((evsOf sc).map evD), .list ((mvsOf sc).map mvD)]) (R := fun _ => [("keep", .fz (.bool (kpOf sc))), ("names", .fz (.list (strD (nmOf sc)))), ("moves", .fz (.list ((mvsOf sc).map mvD))), ("steps", .fz (.list ((spOf sc).map pairD))), ("numbers", .fz (.list (intD (nsOf sc)))), ("events", .fz (.list ((evsOf sc).map evD))), ("marks", .fz (.list (intD (mkOf sc)))), ("src", .fz (.str (srcOf sc))), ("parts", .fz (.list (strD (paOf sc)))), ("wheres", .fz (.list (intD (wsOf sc)))), ("stmts", .fz (.list ((stOf sc).map psD))), ("texts", .fz (.list (strD (txOf sc)))), ("pairs", .fz (.list ((qsOf sc).map pairD))), ("script", .fz (.list (intD sc)))]) (fun X => EvI.tuple (Ev.tuple (.cons (Ev.name rfl) (.cons (Ev.name rfl) .nil)) szl)) (.cons rfl (.cons rfl (.cons rfl (.cons rfl (.cons rfl (.cons rfl (.cons rfl (.cons rfl (.cons rfl (.cons rfl (.cons rfl (.cons rfl (.cons rfl (.cons rfl .nil)))))))))))))) (fun i d hd => ?_) ?_)
  · refine ⟨_, fun X₁ => Asg.name (.inl rfl), fun X₁ => ?_⟩
    obtain ⟨l, hpl, hw, hk⟩ : ∃ l, Plain (.list l) ∧ FnC g n "watched" [d, .list (strD (nmOf sc)), .bool (kpOf sc)] (.list l) ∧ FnC g n "_law_kept" [d, .list (strD (nmOf sc)), .bool (kpOf sc)] (.list l) := by
      match i, hd with
      | 0, hd => simp at hd; subst hd; exact ⟨_, plain_evs _, H.watchE, H.keptE⟩
      | 1, hd => simp at hd; subst hd; exact ⟨_, plain_mvs _, H.watchM, H.keptM⟩
    refine Ex.cons (Ex1.assign (d := .list l) (.inl rfl) (fun X => Ev.call hw rfl (.cons (Ev.name rfl) (.cons (Ev.name rfl) (.cons (Ev.name rfl) .nil)))) ?_)
    refine Ex.cons (Ex1.ite (c := false) (fun X => Tr.or2 (p := false) (typeTest (T := "list") rfl B.type.1 B.type.2 rfl B.list.1 B.list.2 (.cons (Ev.name rfl) .nil) fun A s Q h => isNotT h) fun _ => Tr.ne (Ev.name rfl) (Ev.call hk rfl (.cons (Ev.name rfl) (.cons (nmE D h24 rfl rfl) (.cons (Ev.name rfl) .nil)))) hpl) (fun hc => (nomatch hc)) (fun _ => ?_))
    exact Ex.nil (Ex.nil (.cons rfl (.cons rfl (.cons rfl (.cons rfl (.cons rfl (.cons rfl (.cons rfl (.cons rfl (.cons rfl (.cons rfl (.cons rfl (.cons rfl (.cons rfl (.cons rfl .nil)))))))))))))))
  refine Ex.cons (Ex1.ite (c := false) (fun X => Tr.or2 (p := false) (Tr.ne (Ev.name rfl) (nmE D h24 rfl rfl) (plain_strs _)) fun _ => Tr.ne (Ev.name rfl) (Ev.tab (i := 0) (Ev.call H.prog rfl (.cons (Ev.name rfl) .nil)) Ev.int rfl (show 2 ≤ 1000 by decide)) (plain_pss _)) (fun hc => (nomatch hc)) (fun _ => ?_))
  refine Ex.nil ?_
  refine Ex.cons (Ex1.ite (c := false) (fun X => Tr.or2 (p := false) (Tr.ne (Ev.name rfl) (evE B H rfl rfl rfl rfl) (plain_evs _)) fun _ => Tr.ne (Ev.name rfl) (mvE H rfl rfl rfl) (plain_mvs _)) (fun hc => (nomatch hc)) (fun _ => ?_))
  refine Ex.nil ?_
  refine Ex.cons (Ex1.assign (d := .list (intD (csOf sc))) (.inl rfl) (fun X => EvL.ev (csE B H h24 rfl rfl rfl)) ?_)
  refine Ex.cons (Ex1.assign (d := .list (intD (tmOf sc))) (.inl rfl) (fun X => EvL.ev (tmE B H h24 rfl rfl rfl)) ?_)
  refine Ex.cons (Ex1.assign (d := .list (rwOf sc)) (.inl rfl) (fun X => Ev.call H.byline rfl (.cons (Ev.name rfl) (.cons (Ev.name rfl) (.cons (Ev.name rfl) .nil)))) ?_)
  refine Ex.cons (Ex1.ite (c := false) (fun X => Tr.or2 (p := false) (typeTest (T := "list") rfl B.type.1 B.type.2 rfl B.list.1 B.list.2 (.cons (Ev.name rfl) .nil) fun A s Q h => isNotT h) fun _ => Tr.ne (Ev.name rfl) (Ev.call H.rows rfl (.cons (Ev.name rfl) (.cons (Ev.name rfl) (.cons (Ev.name rfl) (.cons (Ev.name rfl) .nil))))) (plain_rows _)) (fun hc => (nomatch hc)) (fun _ => ?_))
  refine Ex.nil ?_
  refine Ex.cons (Ex1.for (ds := rwOf sc) (R := fun _ => [("counts", .fz (.list (intD (csOf sc)))), ("spent", .fz (.list (intD (tmOf sc)))), ("src", .fz (.str (srcOf sc))), ("wheres", .fz (.list (intD (wsOf sc)))), ("texts", .fz (.list (strD (txOf sc)))), ("script", .fz (.list (intD sc)))]) (fun X => EvI.list (Ev.name rfl)) (.cons rfl (.cons rfl (.cons rfl (.cons rfl (.cons rfl (.cons rfl .nil)))))) (fun i d hd => ?_) ?_)
  · obtain ⟨j, _, hj⟩ := List.mem_filterMap.mp (List.mem_of_getElem? hd)
    obtain ⟨w, x, u, v, rfl, _, _⟩ := rowAt_is hj
    refine ⟨_, fun X₁ => Asg.name (.inl rfl), fun X₁ => ?_⟩
    refine Ex.cons (Ex1.ite (c := false) (fun X => typeTest (d := .int w) (T := "int") rfl B.type.1 B.type.2 rfl B.int.1 B.int.2 (.cons (Ev.tab (i := 0) (Ev.name rfl) Ev.int rfl (show 4 ≤ 1000 by decide)) .nil) fun A s Q h => isNotT h) (fun hc => (nomatch hc)) (fun _ => ?_))
    exact Ex.nil (Ex.nil (.cons rfl (.cons rfl (.cons rfl (.cons rfl (.cons rfl (.cons rfl .nil)))))))
  refine Ex.cons (Ex1.ite (c := false) (fun X => Tr.ne (Ev.name rfl) (EvL.ev (csE B H h24 rfl rfl rfl)) (plain_ints _)) (fun hc => (nomatch hc)) (fun _ => ?_))
  refine Ex.nil ?_
  refine Ex.cons (Ex1.ite (c := false) (fun X => Tr.ne (Ev.name rfl) (EvL.ev (tmE B H h24 rfl rfl rfl)) (plain_ints _)) (fun hc => (nomatch hc)) (fun _ => ?_))
  refine Ex.nil ?_
  refine Ex.cons (Ex1.for (ds := [.int (md (sg sc 15) 9 : Int), .int (sg sc 15)]) (R := fun _ => [("src", .fz (.str (srcOf sc))), ("wheres", .fz (.list (intD (wsOf sc))))]) (fun X => EvI.tuple (Ev.tuple (.cons (Ev.md (k := 9) (Ev.sc (k := 15) rfl (ar_lt 24 h24) rfl (by decide)) Ev.int rfl (by decide)) (.cons (Ev.sc (k := 15) rfl (ar_lt 24 h24) rfl (by decide)) .nil)) szl)) (.cons rfl (.cons rfl .nil)) (fun i d hd => ?_) ?_)
  · have hd' : ∃ line, d = .int line := by
      match i, hd with
      | 0, hd => simp at hd; exact ⟨_, hd.symm⟩
      | 1, hd => simp at hd; exact ⟨_, hd.symm⟩
    obtain ⟨line, rfl⟩ := hd'
    refine ⟨_, fun X₁ => Asg.name (.inl rfl), fun X₁ => ?_⟩
    refine Ex.cons (Ex1.assign (d := firstFrom (wsOf sc) line) (.inl rfl) (fun X => Ev.call (H.atLine line) rfl (.cons (Ev.name rfl) (.cons (Ev.name rfl) .nil))) ?_)
    refine Ex.cons (Ex1.ite (c := false) (fun X => Tr.or2 (p := false) (Tr.ne (Ev.name rfl) (Ev.call (H.first line) rfl (.cons (Ev.name rfl) (.cons (Ev.name rfl) .nil))) (plain_first _ _)) fun _ => typeTest (d := firstFrom (wsOf sc) line) (T := "bool") rfl B.type.1 B.type.2 rfl B.bool.1 B.bool.2 (.cons (Ev.name rfl) .nil) fun A s Q h => isT ?_) (fun hc => (nomatch hc)) (fun _ => ?_))
    · have : (Value.type (tyOf (firstFrom (wsOf sc) line)) == Value.type "bool") = false := by
        unfold firstFrom
        cases (wsOf sc).findIdx? (fun w => decide (w ≥ line)) <;> rfl
      rw [this]; exact h
    · exact Ex.nil (Ex.nil (.cons rfl (.cons rfl .nil)))
  · exact Ex.cons (Ex1.ret (d := .bool true) (fun X => Ev.bool) rfl)
end
end Mine
set_option Elab.async false
set_option maxRecDepth 100000
set_option linter.unusedVariables false
set_option tactic.hygienic false
namespace Mine
open PySem PyProof.Rows Builtin.Float

/-! decimal texts -/
noncomputable def digs (n : Nat) : List Nat := (Nat.toDigits 10 n).map Char.toNat
theorem numText_nat (n : Nat) : numText (n : Int) = ⟨(digs n).toArray⟩ := by
  show Str.ofString (toString (n : Int)) = _
  rw [Str.ofString_eq_toList]
  show Str.mk ((Nat.repr n).toList.map Char.toNat).toArray = _
  rw [Nat.repr, String.toList_ofList]; rfl
theorem numText_neg' {m : Int} (h : m < 0) : numText m = ⟨(45 :: digs m.natAbs).toArray⟩ := by
  have e : (0 : Int) - m = (m.natAbs : Int) := by lia
  show Str.ofString (toString m) = _
  rw [toString_neg h, e, Str.ofString_eq_toList, String.toList_append, List.map_append]
  have := numText_nat m.natAbs
  rw [numText, Str.ofString_eq_toList] at this
  injection this with this
  have := congrArg Array.toList this
  simp only [List.toList_toArray] at this
  rw [this]; rfl
theorem str_eq {a b : Str} (h : a.cps.toList = b.cps.toList) : a = b := by
  cases a; cases b; simp only [Str.mk.injEq]; exact Array.toList_inj.mp h
theorem app_cps (a b : Str) : (a ++ b).cps.toList = a.cps.toList ++ b.cps.toList := by
  show (a.cps ++ b.cps).toList = _
  simp
theorem num_hneg (m : Int) (h : m < 0) : (("-" : Str) ++ numText (-m)) = numText m := by
  have e : -m = (m.natAbs : Int) := by lia
  rw [e, numText_nat, numText_neg' h]
  refine str_eq ?_
  rw [app_cps]; rfl
theorem num_hpos (m : Int) : (("" : Str) ++ numText m) = numText m := by
  refine str_eq ?_
  rw [app_cps]; rfl
theorem digs_one {r : Nat} (h : r < 10) : (Nat.toDigits 10 r).length = 1 := by
  rw [Nat.toDigits_of_lt_base h]; rfl
theorem digs_split : ∀ (k q r : Nat), 0 < q → r < 10 ^ (k + 1) → Nat.toDigits 10 (q * 10 ^ (k + 1) + r) = Nat.toDigits 10 q ++ (List.replicate (k + 1 - (Nat.toDigits 10 r).length) '0' ++ Nat.toDigits 10 r) ∧ (Nat.toDigits 10 r).length ≤ k + 1
  | 0, q, r, hq, hr => by
    have hr' : r < 10 := by simpa using hr
    rw [digs_one hr']
    refine ⟨?_, by lia⟩
    have := Nat.toDigits_append_toDigits (b := 10) (n := q) (d := r) (by decide) hq hr'
    rw [show q * 10 ^ (0 + 1) + r = 10 * q + r by lia, ← this]; rfl
  | k + 1, q, r, hq, hr => by
    have hd : r % 10 < 10 := Nat.mod_lt _ (by decide)
    have hr1 : r / 10 < 10 ^ (k + 1) := by rw [Nat.div_lt_iff_lt_mul (by decide)]; rw [Nat.pow_succ] at hr; exact hr
    obtain ⟨ih, il⟩ := digs_split k q (r / 10) hq hr1
    have h1 := Nat.toDigits_append_toDigits (b := 10) (n := q * 10 ^ (k + 1) + r / 10) (d := r % 10) (by decide) (by have : 0 < q * 10 ^ (k + 1) := Nat.mul_pos hq (Nat.pow_pos (by decide)); lia) hd
    have e : q * 10 ^ (k + 1 + 1) + r = 10 * (q * 10 ^ (k + 1) + r / 10) + r % 10 := by
      rw [Nat.pow_succ, ← Nat.mul_assoc]; lia
    rw [e, ← h1, ih]
    by_cases hz : r / 10 = 0
    · have hr0 : r < 10 := by lia
      rw [hz, Nat.mod_eq_of_lt hr0, digs_one hr0]
      have z0 : Nat.toDigits 10 0 = ['0'] := rfl
      rw [z0]
      refine ⟨?_, by lia⟩
      simp only [List.length_singleton, Nat.add_sub_cancel, List.append_assoc]
      rw [← List.append_assoc (List.replicate k '0'), ← List.replicate_succ']
    · have h2 := Nat.toDigits_append_toDigits (b := 10) (n := r / 10) (d := r % 10) (by decide) (by lia) hd
      rw [show 10 * (r / 10) + r % 10 = r by lia] at h2
      rw [← h2, List.length_append, digs_one hd]
      refine ⟨?_, by lia⟩
      rw [show k + 1 + 1 - ((Nat.toDigits 10 (r / 10)).length + 1) = k + 1 - (Nat.toDigits 10 (r / 10)).length by lia]
      simp only [List.append_assoc]
theorem num_hpure (m : Int) (h1 : PIE ≤ m) (h2 : m < PIE * PIE) : numText m = Txt.join "" [numText (m.fdiv PIE), Txt.rjustF (numText (m - m.fdiv PIE * PIE)) 18 48] := by
  have hp : PIE = (10 ^ 18 : Nat) := by decide
  obtain ⟨M, rfl⟩ : ∃ M : Nat, m = M := ⟨m.toNat, by rw [PIE] at h1; lia⟩
  have hq : ((M : Int)).fdiv PIE = ((M / 10 ^ 18 : Nat) : Int) := by
    rw [hp, Int.fdiv_eq_ediv_of_nonneg _ (by lia)]; rfl
  have hr : (M : Int) - ((M : Int)).fdiv PIE * PIE = ((M % 10 ^ 18 : Nat) : Int) := by
    rw [hq, PIE]; lia
  rw [hr, hq]
  have hM : 10 ^ 18 ≤ M := by rw [PIE] at h1; lia
  obtain ⟨d1, d2⟩ := digs_split 17 (M / 10 ^ 18) (M % 10 ^ 18) (by lia) (Nat.mod_lt _ (by decide))
  have e : M / 10 ^ 18 * 10 ^ (17 + 1) + M % 10 ^ 18 = M := by lia
  rw [e] at d1
  have hj : ∀ a b : Str, Txt.join "" [a, b] = a ++ ("" : Str) ++ b := fun a b => StrLaws.glued_eq_join "" [a, b]
  rw [hj, numText_nat, numText_nat, numText_nat]
  refine str_eq ?_
  rw [app_cps, app_cps]
  unfold Txt.rjustF
  have hl : (Str.mk (digs (M % 10 ^ 18)).toArray).length = (Nat.toDigits 10 (M % 10 ^ 18)).length := by simp [Str.length, digs]
  have hn : (("" : Str)).cps.toList = [] := rfl
  rw [hn, List.append_nil]
  split
  · rename_i hc
    rw [hl] at hc
    have : (Nat.toDigits 10 (M % 10 ^ 18)).length = 18 := by lia
    rw [this] at d1
    simp only [digs, d1]
    simp
  · rename_i hc
    simp only [Builtin.Str.padded, hl, digs, d1]
    simp [Str.length]
theorem numText_len {m : Int} {k : Nat} (hk : 0 < k) (h : m.natAbs < 10 ^ k) : (numText m).length ≤ k + 1 := by
  by_cases h0 : 0 ≤ m
  · have := toString_length_le (v := m) h0 hk (by
      have : m = (m.natAbs : Int) := by lia
      rw [this]; exact_mod_cast h)
    exact Nat.le_succ_of_le this
  · have h1 := len_text_neg (n := m) (by lia)
    have := toString_length_le (v := 0 - m) (by lia) hk (by
      have : 0 - m = (m.natAbs : Int) := by lia
      rw [this]; exact_mod_cast h)
    show (Str.ofString (toString m)).length ≤ _
    lia
theorem num_hlen (m : Int) (h : m.natAbs < PIE.natAbs * PIE.natAbs) : (numText m).length ≤ 60 :=
  Nat.le_trans (numText_len (k := 36) (by decide) (Nat.lt_of_lt_of_eq h (by decide))) (by decide)
end Mine
set_option Elab.async false
set_option maxRecDepth 100000
set_option linter.unusedVariables false
set_option tactic.hygienic false
namespace Mine
open PySem PyProof.Rows Builtin.Float

/-! a joined text, split again -/
theorem cut_once (c : Nat) : ∀ (x y u v : List Nat), c ∉ x → c ∉ y → x ++ c :: u = y ++ c :: v → x = y ∧ u = v
  | [], [], u, v, _, _, h => by injection h with _ h; exact ⟨rfl, h⟩
  | [], b :: y, u, v, _, hy, h => by injection h with h _; subst h; exact absurd (List.mem_cons_self ..) hy
  | a :: x, [], u, v, hx, _, h => by injection h with h _; subst h; exact absurd (List.mem_cons_self ..) hx
  | a :: x, b :: y, u, v, hx, hy, h => by
    injection h with h1 h2
    subst h1
    obtain ⟨h3, h4⟩ := cut_once c x y u v (fun h => hx (.tail _ h)) (fun h => hy (.tail _ h)) h2
    exact ⟨by rw [h3], h4⟩
theorem join_cps (c : Nat) (x y : Str) (r : List Str) : (Str.join ⟨#[c]⟩ (x :: y :: r)).cps.toList = x.cps.toList ++ c :: (Str.join ⟨#[c]⟩ (y :: r)).cps.toList := by
  show (x ++ ⟨#[c]⟩ ++ Str.join ⟨#[c]⟩ (y :: r)).cps.toList = _
  rw [app_cps, app_cps, List.append_assoc]; rfl
theorem join_inj (c : Nat) : ∀ (A B : List Str), A ≠ [] → B ≠ [] → (∀ a ∈ A, c ∉ a.cps.toList) → (∀ b ∈ B, c ∉ b.cps.toList) → Str.join ⟨#[c]⟩ A = Str.join ⟨#[c]⟩ B → A = B
  | [], _, h, _, _, _, _ => absurd rfl h
  | _, [], _, h, _, _, _ => absurd rfl h
  | [a], [b], _, _, _, _, h => by rw [show a = b from h]
  | [a], b :: b' :: B, _, _, ha, hb, h => by
    have := congrArg (fun s : Str => s.cps.toList) h
    simp only [join_cps] at this
    refine absurd ?_ (ha a (.head _))
    have e : (Str.join ⟨#[c]⟩ [a]) = a := rfl
    rw [e] at this
    rw [this]; simp
  | a :: a' :: A, [b], _, _, ha, hb, h => by
    have := congrArg (fun s : Str => s.cps.toList) h
    simp only [join_cps] at this
    refine absurd ?_ (hb b (.head _))
    have e : (Str.join ⟨#[c]⟩ [b]) = b := rfl
    rw [e] at this
    rw [← this]; simp
  | a :: a' :: A, b :: b' :: B, _, _, ha, hb, h => by
    have := congrArg (fun s : Str => s.cps.toList) h
    simp only [join_cps] at this
    obtain ⟨h1, h2⟩ := cut_once c _ _ _ _ (ha a (.head _)) (hb b (.head _)) this
    have ih := join_inj c (a' :: A) (b' :: B) (by simp) (by simp) (fun x hx => ha x (.tail _ hx)) (fun x hx => hb x (.tail _ hx)) (str_eq h2)
    rw [str_eq h1, ih]
theorem split_ne (x : Str) (c : Nat) : Txt.split x ⟨#[c]⟩ ≠ [] := by
  unfold Txt.split
  split
  · simp
  · split
    · simp
    · rw [StrLaws.partsBetween_eq]
      obtain ⟨p, r, e⟩ := StrLaws.partsFrom_ne x (Str.length ⟨#[c]⟩) 0 (Builtin.Str.occurrences x ⟨#[c]⟩ 0 x.length (x.length + 1))
      rw [e]; simp
theorem split_join {parts : List Str} (hne : parts ≠ []) (hf : ∀ p ∈ parts, 10 ∉ p.cps.toList) : Txt.split (Txt.join "\n" parts) "\n" = parts := by
  have e : (Str.ofString "\n") = ⟨#[10]⟩ := rfl
  rw [e]
  refine join_inj 10 _ _ (split_ne _ _) hne (StrLaws.split_free _ 10) hf ?_
  rw [StrLaws.join_split]
  exact StrLaws.glued_eq_join _ _

/-! the padded numbers -/
noncomputable def dSpec (w : Nat) : FormatSpec := { align := 62, width := some w, type := some 100 }
theorem spec_text (w : Nat) (a : Int) : intSpecText (dSpec w) a = Txt.rjust (numText a) (w : Int) := by
  unfold intSpecText intField' dSpec Txt.rjust Builtin.Str.padded
  have hm : ((Nat.toDigits 10 a.natAbs).map fun c => (if (100 : Nat) == 88 then c.toUpper else c).toNat) = digs a.natAbs := by unfold digs; rfl
  rw [hm]
  have hne : digs a.natAbs ≠ [] := by
    unfold digs
    have := Nat.length_toDigits_pos (b := 10) (n := a.natAbs)
    intro h
    rw [List.map_eq_nil_iff] at h
    rw [h] at this; simp at this
  have hne' : (digs a.natAbs).isEmpty = false := by cases h : digs a.natAbs with | nil => exact absurd h hne | cons => rfl
  by_cases h0 : a < 0
  · rw [numText_neg' h0]
    simp only [h0, decide_true, if_true, hne', Bool.false_eq_true, if_false]
    simp [Str.length]
    split
    · rename_i hc
      have : w - 1 - (digs a.natAbs).length = 0 := by lia
      rw [this]; rfl
    · rename_i hc
      have : w - 1 - (digs a.natAbs).length = w - ((digs a.natAbs).length + 1) := by lia
      rw [this]; simp
  · obtain ⟨m, rfl⟩ : ∃ m : Nat, a = m := ⟨a.toNat, by lia⟩
    rw [Int.natAbs_natCast] at *
    rw [numText_nat]
    simp only [h0, decide_false, if_false, hne', Bool.false_eq_true]
    simp [Str.length]
    split
    · rename_i hc
      have : w - (digs m).length = 0 := by lia
      rw [this]; rfl
    · simp
theorem parse5 : parseFormatSpec (Str.ofString "5d").cps.toList "int" 62 = .ok (dSpec 5) := rfl
theorem parse6 : parseFormatSpec (Str.ofString "6d").cps.toList "int" 62 = .ok (dSpec 6) := rfl
theorem spec5 (a : Int) : intSpecTextOf "5d" a = Txt.rjust (numText a) 5 := by
  unfold intSpecTextOf
  rw [parse5]
  exact spec_text 5 a
theorem spec6 (a : Int) : intSpecTextOf "6d" a = Txt.rjust (numText a) 6 := by
  unfold intSpecTextOf
  rw [parse6]
  exact spec_text 6 a

/-! pages -/
theorem len0 (x : Str) : (x.length != 0) = (x != "") := by
  have e : (Str.ofString "") = ⟨#[]⟩ := rfl
  obtain ⟨c⟩ := x
  rw [Bool.eq_iff_iff, bne_iff_ne, bne_iff_ne, e]
  constructor
  · intro h h2; injection h2 with h2; subst h2; exact h rfl
  · intro h h2
    exact h (congrArg Str.mk (Array.eq_empty_of_size_eq_zero h2))
theorem rowR_is (ls : List Int) (texts : List Str) (e : Nat × Str) : rowR ls texts e = rowPage ls texts e := by
  unfold rowR rowPage
  rw [len0, spec5]
  have hb : (e.2 != "") = !(e.2 == "") := rfl
  rw [hb]
  cases e.2 == "" with
  | true =>
    rw [if_neg (by simp), if_pos rfl]
    simp only [catS, List.foldl_cons, List.foldl_nil, Str.empty_append]
  | false =>
    rw [if_pos (by simp), if_neg (by simp)]
    simp only [catS, List.foldl_cons, List.foldl_nil, Str.empty_append]
theorem cut_is {w : Int} (hw : 5 ≤ w) (c : Str) : cutT w c = cutP w c := by
  unfold cutT cutP
  split
  · rename_i h
    have h1 : Txt.slice c (some (-(w - 4))) none = Txt.slice c (some (-(w - 4) + c.length)) none := StrLaws.sliceText_neg_lo c none (by lia) (by lia)
    rw [h1, show -(w - 4) + (c.length : Int) = (c.length : Int) - w + 4 by lia]
  · rfl
theorem rowM_is {w : Int} (hw : 5 ≤ w) (m : Mv1) : rowM w m = rowMP w m := by
  unfold rowM rowMP baseP
  rw [len0, spec6, cut_is hw]
  cases m.note != "" with
  | true =>
    rw [if_pos rfl, if_pos rfl]
    simp only [catS, List.foldl_cons, List.foldl_nil, Str.empty_append]
    rw [← Str.append_assoc]; rfl
  | false =>
    rw [if_neg (by simp), if_neg (by simp)]
    simp only [catS, List.foldl_cons, List.foldl_nil, Str.empty_append]; rfl

/-! the watched notes -/
theorem notes_ok : ∀ i, i < 4 → ∀ j, j < 7 → assignsT (NAMES.getD i []) (NOTES.getD j "") = (NAMES.getD i []).contains (headOf (NOTES.getD j "")) := by decide +kernel
theorem notes_split : ∀ j, j < 7 → (NOTES.getD j "").length ≤ 1000 ∧ (Txt.split (NOTES.getD j "") " = ").length ≤ 65536 ∧ 0 < (Txt.split (NOTES.getD j "") " = ").length := by decide +kernel
theorem names_ok : ∀ i, i < 4 → (NAMES.getD i []).length ≤ 1000 ∧ ∀ m ∈ NAMES.getD i [], m.length ≤ 1000 := by decide +kernel
theorem watched_is {α : Type} {noteOf : α → Str} {names : List Str} {keep : Bool} {es : List α} (h : ∀ e ∈ es, assignsT names (noteOf e) = names.contains (headOf (noteOf e))) : watchedT noteOf names keep es = keptT noteOf names keep es := by
  unfold watchedT keptT
  congr 1
  refine List.filter_congr fun p hp => ?_
  unfold keepsT keepsL
  rw [h p.1 (List.fst_mem_of_mem_zipIdx hp)]

/-! the statements' texts -/
theorem words_all : ∀ j, j < 5 → ∀ k, k < 6 → toksT (FIRST.getD j [] ++ (List.replicate k MORE).flatten) = FIRSTT.getD j "" ++ Txt.mul " + 1000000" (k : Nat) ∧ 10 ∉ (FIRSTT.getD j "" ++ Txt.mul " + 1000000" (k : Nat)).cps.toList := by decide +kernel
theorem words_is (y : Int) : toksT (exprOf y) = wordsOf y ∧ 10 ∉ (wordsOf y).cps.toList := words_all _ (md_lt y (by decide)) _ (md_lt y (by decide))
theorem kinds_all : ∀ j, j < 6 → ((["else", "end"] : List Str).contains (KINDS.getD j "") = (KINDS.getD j "" == "else" || KINDS.getD j "" == "end")) ∧ (KINDS.getD j "").cps.toList.head?.any (fun c => c != 32 && c != 10) = true ∧ 10 ∉ (KINDS.getD j "").cps.toList := by decide +kernel
theorem kinds_is (x : Int) : ((["else", "end"] : List Str).contains (kindOf' x) = (kindOf' x == "else" || kindOf' x == "end")) ∧ (kindOf' x).cps.toList.head?.any (fun c => c != 32 && c != 10) = true ∧ 10 ∉ (kindOf' x).cps.toList := kinds_all _ (md_lt x (by decide))
theorem prog_is (q : Int × Int) : psT (progPS q) = progT q := by
  obtain ⟨h1, _⟩ := words_is q.2
  obtain ⟨h2, _⟩ := kinds_is q.1
  unfold progPS progT psT
  by_cases h : (kindOf' q.1 == Str.ofString "set") = true
  · simp only [if_pos h, h1]
    simp only [catS, List.foldl_cons, List.foldl_nil, Str.empty_append]
    have : (Str.ofString "set " ++ Str.ofString "n" ++ Str.ofString " = ") = Str.ofString "set n = " := by decide +kernel
    rw [this]
  · by_cases h' : (kindOf' q.1 == Str.ofString "else" || kindOf' q.1 == Str.ofString "end") = true
    · simp only [if_neg h, if_pos h', h2]
    · simp only [if_neg h, if_neg h', h2, h1]
      simp only [catS, List.foldl_cons, List.foldl_nil, Str.empty_append]
/-- a text that begins with a sign that is no blank -/
noncomputable def Bare (t : Str) : Prop := t.cps.toList.head?.any (fun c => c != 32 && c != 10) = true ∧ 10 ∉ t.cps.toList
theorem bare_app {a b : Str} (ha : Bare a) (hb : 10 ∉ b.cps.toList) : Bare (a ++ b) := by
  obtain ⟨h1, h2⟩ := ha
  refine ⟨?_, ?_⟩
  · rw [app_cps]
    cases h : a.cps.toList with
    | nil => rw [h] at h1; cases h1
    | cons c r => rw [h] at h1; exact h1
  · rw [app_cps, List.mem_append]; exact fun h => h.elim h2 hb
theorem prog_bare (q : Int × Int) : Bare (progT q) := by
  obtain ⟨_, h1⟩ := words_is q.2
  obtain ⟨_, h2⟩ := kinds_is q.1
  unfold progT
  split
  · exact bare_app (by unfold Bare; decide +kernel) h1
  · split
    · exact h2
    · exact bare_app (bare_app h2 (by decide +kernel)) h1
end Mine
set_option Elab.async false
set_option maxRecDepth 100000
set_option linter.unusedVariables false
set_option tactic.hygienic false
namespace Mine
open PySem PyProof.Rows Builtin.Float

/-! lines with ink -/
theorem takeWhile_snoc_le {p : Nat → Bool} {a : Nat} (ha : p a = false) : ∀ (l : List Nat), ((l ++ [a]).takeWhile p).length ≤ l.length
  | [] => by simp [ha]
  | b :: l => by
    rw [List.cons_append, List.takeWhile_cons]
    split
    · rw [List.length_cons, List.length_cons]; exact Nat.succ_le_succ (takeWhile_snoc_le ha l)
    · simp
theorem ink_bare {t : Str} (h : Bare t) : inkS (("  " : Str) ++ t) = true := by
  obtain ⟨h1, _⟩ := h
  have e : (("  " : Str) ++ t).cps.toList = 32 :: 32 :: t.cps.toList := by rw [app_cps]; rfl
  cases ht : t.cps.toList with
  | nil => rw [ht] at h1; cases h1
  | cons a r =>
    rw [ht] at h1 e
    have ha : (Str.ofString " ").cps.contains a = false := by
      have : (Str.ofString " ").cps = #[32] := rfl
      rw [this]
      have h2 : (a != 32 && a != 10) = true := h1
      rw [Bool.and_eq_true] at h2
      have := h2.1
      simp at this ⊢
      exact this
    have h32 : (Str.ofString " ").cps.contains 32 = true := by decide +kernel
    have hl : (("  " : Str) ++ t).length = r.length + 3 := by
      have : (("  " : Str) ++ t).length = (("  " : Str) ++ t).cps.toList.length := by simp [Str.length]
      rw [this, e]; rfl
    have lo : stripLo (Str.ofString " ").cps.contains true (("  " : Str) ++ t) = 2 := by
      unfold stripLo
      rw [e, if_pos rfl]
      rw [List.takeWhile_cons, h32, if_pos rfl, List.takeWhile_cons, h32, if_pos rfl, List.takeWhile_cons, ha, if_neg Bool.false_ne_true]; rfl
    unfold inkS Txt.stripChars Txt.stripBy
    have hs : stripSame (Str.ofString " ").cps.contains true true (("  " : Str) ++ t) = false := by
      unfold stripSame; rw [lo]; rfl
    rw [hs, if_neg Bool.false_ne_true]
    unfold stripped
    rw [lo]
    have hi : 3 ≤ stripHi (Str.ofString " ").cps.contains true (("  " : Str) ++ t) 2 := by
      unfold stripHi
      rw [e, if_pos rfl, hl]
      have := takeWhile_snoc_le (p := (Str.ofString " ").cps.contains) ha r.reverse
      rw [List.length_reverse] at this
      show 3 ≤ r.length + 3 - ((a :: r).reverse.takeWhile _).length
      rw [List.reverse_cons]
      lia
    have : (Builtin.Str.strSub (("  " : Str) ++ t) 2 (stripHi (Str.ofString " ").cps.contains true (("  " : Str) ++ t) 2)).length ≠ 0 := by
      have e2 := StrLaws.strSub_toList (("  " : Str) ++ t) 2 (stripHi (Str.ofString " ").cps.contains true (("  " : Str) ++ t) 2)
      have e3 : ∀ s : Str, s.length = s.cps.toList.length := fun s => by simp [Str.length]
      rw [e3, e2, e]
      simp
      lia
    simpa using this
theorem sLines_ink (P : List Str) {x : Str} (h : inkS x = true) : sLines (P ++ [x]) = sLines P ++ [((P ++ [x]).length : Int)] := by
  unfold sLines
  rw [List.zipIdx_append, List.filter_append, List.map_append]
  congr 1
  simp [h]; lia
theorem sLines_blank (P : List Str) : ∀ (Q : List Str), (∀ x ∈ Q, inkS x = false) → sLines (P ++ Q) = sLines P := fun Q h => by
  unfold sLines
  rw [List.zipIdx_append, List.filter_append, List.map_append]
  have : (Q.zipIdx (1 + P.length)).filter (fun p => inkS p.1) = [] := by
    rw [List.filter_eq_nil_iff]
    intro p hp
    rw [h p.1 (List.fst_mem_of_mem_zipIdx hp)]; exact Bool.false_ne_true
  rw [this]; simp
theorem gaps_all : ∀ i, i < 3 → ∀ x ∈ GAPS.getD i [], inkS x = false ∧ 10 ∉ x.cps.toList ∧ x.length ≤ 3 := by decide +kernel
theorem tails_all : ∀ i, i < 5 → ∀ x ∈ TAILS.getD i [], inkS x = false ∧ 10 ∉ x.cps.toList ∧ x.length ≤ 3 := by decide +kernel
theorem src_go (b : Int) : ∀ (ts : List Str) (st : List Str × List Int), (∀ t ∈ ts, Bare t) → sLines st.1 = st.2 → sLines (ts.foldl (srcStep b) st).1 = (ts.foldl (srcStep b) st).2
  | [], st, _, h => h
  | t :: ts, st, hb, h => by
    rw [List.foldl_cons]
    refine src_go b ts _ (fun x hx => hb x (.tail _ hx)) ?_
    unfold srcStep
    rw [sLines_ink _ (ink_bare (hb t (.head _))), sLines_blank _ _ (fun x hx => (gaps_all _ (md_lt _ (by decide)) x hx).1), h]
theorem src_lines (b : Int) {ts : List Str} (hb : ∀ t ∈ ts, Bare t) : sLines (srcParts b ts) = (srcAll b ts).2 := by
  have h1 : sLines (srcAll b ts).1 = (srcAll b ts).2 := src_go b ts ([], []) hb rfl
  have h2 : sLines ((srcAll b ts).1 ++ TAILS.getD (md b 5) []) = (srcAll b ts).2 := by
    rw [sLines_blank _ _ (fun x hx => (tails_all _ (md_lt _ (by decide)) x hx).1), h1]
  unfold srcParts
  split
  · rename_i h
    rw [List.eq_nil_of_length_eq_zero h] at h2
    rw [← h2]
    decide +kernel
  · exact h2
noncomputable def Part (ts : List Str) (p : Str) : Prop := (inkS p = false ∧ 10 ∉ p.cps.toList ∧ p.length ≤ 3) ∨ ∃ t ∈ ts, p = ("  " : Str) ++ t
theorem src_part_go (b : Int) (T : List Str) : ∀ (ts : List Str) (st : List Str × List Int), (∀ t ∈ ts, t ∈ T) → (∀ p ∈ st.1, Part T p) → ∀ p ∈ (ts.foldl (srcStep b) st).1, Part T p
  | [], st, _, h => h
  | t :: ts, st, hb, h => by
    rw [List.foldl_cons]
    refine src_part_go b T ts _ (fun x hx => hb x (.tail _ hx)) ?_
    intro p hp
    unfold srcStep at hp
    rcases List.mem_append.mp hp with hp | hp
    · rcases List.mem_append.mp hp with hp | hp
      · exact h p hp
      · exact .inl (gaps_all _ (md_lt _ (by decide)) p hp)
    · rw [List.mem_singleton.mp hp]
      exact .inr ⟨t, hb t (.head _), rfl⟩
theorem src_part (b : Int) (ts : List Str) : ∀ p ∈ srcParts b ts, Part ts p := by
  have h1 := src_part_go b ts ts ([], []) (fun _ h => h) (fun p hp => nomatch hp)
  unfold srcParts
  split
  · intro p hp
    rw [List.mem_singleton.mp hp]
    exact .inl (by decide +kernel)
  · intro p hp
    rcases List.mem_append.mp hp with hp | hp
    · exact h1 p hp
    · exact .inl (tails_all _ (md_lt _ (by decide)) p hp)
theorem src_ne (b : Int) (ts : List Str) : srcParts b ts ≠ [] := by
  unfold srcParts
  split
  · simp
  · rename_i h
    intro h'; exact h (by rw [h']; rfl)
theorem src_len (b : Int) (ts : List Str) : (srcParts b ts).length ≤ 2 * ts.length + 3 := by
  have h1 := (srcAll_len b ts ([], [])).1
  have h2 := tail_len (md b 5)
  unfold srcParts
  split
  · simp
  · have : (srcAll b ts).1.length ≤ 0 + 2 * ts.length := h1
    rw [List.length_append]; lia
theorem mem_sLines {ps : List Str} {w : Int} (h : w ∈ sLines ps) : ∃ i : Nat, ∃ x, ps[i]? = some x ∧ inkS x = true ∧ w = (i : Int) + 1 := by
  unfold sLines at h
  obtain ⟨p, hp, rfl⟩ := List.mem_map.mp h
  obtain ⟨hp, hi⟩ := List.mem_filter.mp hp
  obtain ⟨x, k⟩ := p
  have := List.mem_zipIdx_iff_le_and_getElem?_sub.mp hp
  exact ⟨k - 1, x, this.2, hi, by have := this.1; show (k : Int) = _; lia⟩
theorem sLines_nodup (ps : List Str) : (sLines ps).Nodup := by
  unfold sLines
  have h1 : (((ps.zipIdx 1).filter fun p => inkS p.1).map fun p => p.2).Nodup := by
    have hs : List.Sublist (((ps.zipIdx 1).filter fun p => inkS p.1).map fun p => p.2) ((ps.zipIdx 1).map fun p => p.2) := List.Sublist.map _ List.filter_sublist
    refine List.Nodup.sublist hs ?_
    rw [show ((ps.zipIdx 1).map fun p => p.2) = List.range' 1 ps.length from List.zipIdx_map_snd 1 ps]
    exact List.nodup_range'
  have e : (((ps.zipIdx 1).filter fun p => inkS p.1).map fun p => (p.2 : Int)) = (((ps.zipIdx 1).filter fun p => inkS p.1).map fun p => p.2).map fun k : Nat => (k : Int) := by rw [List.map_map]; rfl
  rw [e]
  exact List.Pairwise.map _ (fun a b hab h => hab (Int.ofNat.inj h)) h1

/-! the rows by line -/
theorem getI_in (k : Int) : ∀ (ws cs : List Int), ws.length ≤ cs.length → ws.contains k = true → getI (ws.zip cs) k = .int (cs.getD (ws.idxOf k) 0)
  | [], _, _, h => by cases h
  | w :: ws, [], hl, _ => by cases hl
  | w :: ws, c :: cs, hl, h => by
    rw [List.zip_cons_cons]
    unfold getI
    rw [List.lookup_cons]
    by_cases e : k = w
    · subst e; simp
    · have e1 : (k == w) = false := by simpa using e
      have e2 : (w == k) = false := by simpa using fun h => e h.symm
      rw [e1]
      have h' : ws.contains k = true := by
        rw [List.contains_cons, e1, Bool.false_or] at h; exact h
      have ih := getI_in k ws cs (by simpa using hl) h'
      unfold getI at ih
      rw [List.idxOf_cons, e2]
      simpa using ih
theorem getI_out (k : Int) : ∀ (ws cs : List Int), ws.contains k = false → getI (ws.zip cs) k = .none
  | [], _, _ => by simp [getI]
  | w :: ws, [], _ => by simp [getI]
  | w :: ws, c :: cs, h => by
    rw [List.contains_cons, Bool.or_eq_false_iff] at h
    rw [List.zip_cons_cons]
    unfold getI
    rw [List.lookup_cons, h.1]
    exact getI_out k ws cs h.2
noncomputable def rowF (ws cs ts : List Int) (p : Str × Nat) : PyData := .tuple [.int (p.2 : Int), .str p.1, getI (ws.zip cs) (p.2 : Int), getI (ws.zip ts) (p.2 : Int)]
theorem rowAt_some {parts : List Str} {ws cs ts : List Int} (hc : ws.length ≤ cs.length) (ht : ws.length ≤ ts.length) (i : Nat) (h : i + 1 < parts.length ∨ parts.getD i "" ≠ "") : rowAt parts ws cs ts i = some (rowF ws cs ts (parts.getD i "", 1 + i)) := by
  have e : ((1 + i : Nat) : Int) = (i : Int) + 1 := by lia
  unfold rowAt rowF
  simp only [e]
  by_cases hw : ws.contains ((i : Int) + 1) = true
  · rw [if_pos hw, getI_in _ _ _ hc hw, getI_in _ _ _ ht hw]
  · have hw' : ws.contains ((i : Int) + 1) = false := by simpa using hw
    rw [if_neg hw, getI_out _ _ _ hw', getI_out _ _ _ hw']
    rw [if_pos]
    rw [Bool.or_eq_true]
    rcases h with h | h
    · exact .inl (decide_eq_true (by lia))
    · exact .inr (by rw [bne_iff_ne]; exact h)
theorem zip_range (G : Str × Nat → PyData) (l : List Str) : (l.zipIdx 1).map G = (List.range l.length).map fun i => G (l.getD i "", 1 + i) := by
  refine List.ext_getElem (by simp) fun i h1 h2 => ?_
  have : i < l.length := by simpa using h1
  simp [this]
theorem fm_map {α β : Type} (f : α → Option β) (F : α → β) : ∀ (l : List α), (∀ a ∈ l, f a = some (F a)) → l.filterMap f = l.map F
  | [], _ => rfl
  | a :: l, h => by rw [List.filterMap_cons, h a (.head _), List.map_cons, fm_map f F l fun x hx => h x (.tail _ hx)]
theorem rows_is {ps : List Str} {last : Str} {ws cs ts : List Int} (hc : ws.length ≤ cs.length) (ht : ws.length ≤ ts.length) (hl : last = "" → ((ps.length : Int) + 1) ∉ ws) :
    ((if last == "" then ps else ps ++ [last]).zipIdx 1).map (rowF ws cs ts) = (List.range (ps ++ [last]).length).filterMap (rowAt (ps ++ [last]) ws cs ts) := by
  rw [zip_range]
  have hn : (ps ++ [last]).length = ps.length + 1 := by simp
  have g1 : ∀ i, i < ps.length → (ps ++ [last]).getD i "" = ps.getD i "" := fun i hi => by simp [List.getD, List.getElem?_append_left hi]
  have g2 : (ps ++ [last]).getD ps.length "" = last := by simp [List.getD]
  have hfm : (List.range ps.length).filterMap (rowAt (ps ++ [last]) ws cs ts) = (List.range ps.length).map fun i => rowF ws cs ts (ps.getD i "", 1 + i) := by
    refine fm_map _ _ _ fun i hi => ?_
    have hi' := List.mem_range.mp hi
    rw [rowAt_some hc ht i (.inl (by lia)), g1 i hi']
  rw [hn, List.range_succ, List.filterMap_append, hfm]
  by_cases h : last = ""
  · have hb : (last == "") = true := by simpa using h
    rw [hb, if_pos rfl]
    have : rowAt (ps ++ [last]) ws cs ts ps.length = none := by
      unfold rowAt
      have hw : ws.contains ((ps.length : Int) + 1) = false := by simpa using hl h
      rw [hw, if_neg Bool.false_ne_true, g2, hn, if_neg]
      rw [Bool.or_eq_true]
      rintro (h' | h')
      · have := of_decide_eq_true h'; lia
      · rw [bne_iff_ne] at h'; exact h' h
    simp [this]
  · have hb : (last == "") = false := by simpa using h
    rw [hb, if_neg Bool.false_ne_true, hn, List.range_succ, List.map_append]
    have : rowAt (ps ++ [last]) ws cs ts ps.length = some (rowF ws cs ts (last, 1 + ps.length)) := by
      rw [rowAt_some hc ht ps.length (.inr (by rw [g2]; exact h)), g2]
    have e1 : (List.range ps.length).map (fun i => rowF ws cs ts ((ps ++ [last]).getD i "", 1 + i)) = (List.range ps.length).map fun i => rowF ws cs ts (ps.getD i "", 1 + i) :=
      List.map_congr_left fun i hi => by rw [g1 i (List.mem_range.mp hi)]
    rw [e1]
    simp only [List.map_cons, List.map_nil, List.filterMap_cons, List.filterMap_nil, this, g2]
end Mine
set_option Elab.async false
set_option maxRecDepth 100000
set_option linter.unusedVariables false
set_option tactic.hygienic false
namespace Mine
open PySem PyProof.Rows Builtin.Float

/-- all that stands in the module -/
structure Tops (g : G) : Prop where
  blt : Blt g
  dat : Dat g
  piece : Gd g "PIECE" (.int PIE)
  digits : Gd g "PIECE_DIGITS" (.int 18)
  k1 : ∃ cd, FnK g 1 .none cd
  k5 : ∃ cd, FnK g 5 .none cd ∧ ∃ c P, cd = .ref c ∧ (c, P) ∈ g.W.C
  k7 : ∃ cd, FnK g 7 .none cd
  k8 : ∃ cd, FnK g 8 .none cd
  k9 : ∃ cd, FnK g 9 .none cd
  k10 : ∃ cd T t0 m, FnK g 10 (.ref T) cd ∧ (T, tupObj [.int 0 t0] m) ∈ g.W.K
  k11 : ∃ cd T t0 m, FnK g 11 (.ref T) cd ∧ (T, tupObj [.int 60 t0] m) ∈ g.W.K ∧ ∃ c P, cd = .ref c ∧ (c, P) ∈ g.W.C
  k12 : ∃ cd, FnK g 12 .none cd ∧ ∃ c P, cd = .ref c ∧ (c, P) ∈ g.W.C
  k13 : ∃ cd, FnK g 13 .none cd
  k25 : ∃ cd, FnK g 25 .none cd
  k26 : ∃ cd, FnK g 26 .none cd
  k27 : ∃ cd, FnK g 27 .none cd
  k28 : ∃ cd, FnK g 28 .none cd
  k29 : ∃ cd, FnK g 29 .none cd
  k30 : ∃ cd, FnK g 30 .none cd
  k31 : ∃ cd, FnK g 31 .none cd
  k32 : ∃ cd, FnK g 32 .none cd
  k33 : ∃ cd, FnK g 33 .none cd
  k34 : ∃ cd, FnK g 34 .none cd

section
variable {g : G} {sc : List Int}
theorem tx_len (sc : List Int) : 0 < (txOf sc).length ∧ (txOf sc).length ≤ 3 := by
  unfold txOf qsOf
  rw [List.length_map, List.length_take]
  simp only [List.length_cons, List.length_nil]
  omega
theorem ts_sub (sc : List Int) : ∀ t ∈ tsOf sc, t ∈ txOf sc := fun t h => List.mem_of_mem_take h
theorem tx_bare (sc : List Int) : ∀ t ∈ txOf sc, Bare t := fun t h => by
  obtain ⟨q, _, rfl⟩ := List.mem_map.mp h
  exact prog_bare q
theorem prog_len (q : Int × Int) : (progT q).length ≤ 120 := by
  have h1 := words_len q.2
  have h2 := kind_len q.1
  unfold progT
  have a1 : (Str.ofString "set n = ").length = 8 := rfl
  have a2 : (Str.ofString " ").length = 1 := rfl
  split
  · rw [Str.length_append, a1]; lia
  · split
    · lia
    · rw [Str.length_append, Str.length_append, a2]; lia
theorem tx_short (sc : List Int) : ∀ t ∈ txOf sc, t.length ≤ 120 := fun t h => by
  obtain ⟨q, _, rfl⟩ := List.mem_map.mp h
  exact prog_len q
theorem ts_len (sc : List Int) : (tsOf sc).length ≤ (txOf sc).length := by unfold tsOf; rw [List.length_take]; lia
theorem pa_len (sc : List Int) : (paOf sc).length ≤ 9 := by
  have h1 := src_len (sg sc 7) (tsOf sc)
  have h2 := ts_len sc
  have h3 := tx_len sc
  show (srcParts (sg sc 7) (tsOf sc)).length ≤ 9
  lia
theorem pa_part (sc : List Int) : ∀ p ∈ paOf sc, 10 ∉ p.cps.toList ∧ p.length ≤ 122 := fun p hp => by
  rcases src_part _ _ p hp with ⟨_, h2, h3⟩ | ⟨t, ht, rfl⟩
  · exact ⟨h2, by lia⟩
  · have hb := tx_bare sc t (ts_sub sc t ht)
    have hs := tx_short sc t (ts_sub sc t ht)
    refine ⟨?_, ?_⟩
    · rw [app_cps, List.mem_append]
      rintro (h | h)
      · exact absurd h (by decide +kernel)
      · exact hb.2 h
    · have a1 : (Str.ofString "  ").length = 2 := rfl
      rw [Str.length_append, a1]; lia
theorem pa_sum (sc : List Int) : ((paOf sc).map (·.length)).sum ≤ 2000 := by
  have h1 := StrLaws.sumLen_le (B := 122) (paOf sc) fun y hy => (pa_part sc y hy).2
  have h2 := pa_len sc
  have : (paOf sc).length * 122 ≤ 9 * 122 := Nat.mul_le_mul_right _ h2
  lia
theorem src_split (sc : List Int) : Txt.split (srcOf sc) "\n" = paOf sc := split_join (src_ne _ _) fun p hp => (pa_part sc p hp).1
theorem src_short (sc : List Int) : (srcOf sc).length ≤ 65536 := by
  have h1 := StrLaws.join_length_le "\n" (paOf sc)
  have h2 := pa_sum sc
  have h3 := pa_len sc
  have e : (srcOf sc).length = (Str.join "\n" (paOf sc)).length := congrArg Str.length (StrLaws.glued_eq_join "\n" (paOf sc))
  have a1 : (Str.ofString "\n").length = 1 := rfl
  rw [a1] at h1
  rw [e]; lia
theorem src_ws (sc : List Int) : sLines (paOf sc) = wsOf sc := src_lines _ fun t ht => tx_bare sc t (ts_sub sc t ht)
theorem ws_len (sc : List Int) : (wsOf sc).length = (tsOf sc).length := by
  have := (srcAll_len (sg sc 7) (tsOf sc) ([], [])).2
  show (srcAll (sg sc 7) (tsOf sc)).2.length = _
  have e : (srcAll (sg sc 7) (tsOf sc)).2.length = 0 + (tsOf sc).length := this
  lia
theorem ws_mem (sc : List Int) : ∀ w ∈ wsOf sc, 1 ≤ w ∧ w ≤ 9 := fun w hw => by
  rw [← src_ws] at hw
  obtain ⟨i, x, hx, _, rfl⟩ := mem_sLines hw
  have := (List.getElem?_eq_some_iff.mp hx).1
  have := pa_len sc
  lia
theorem off_all : ∀ i, i < 4 → (OFFS.getD i 0).natAbs ≤ 99998 := by decide +kernel
theorem where_b (sc : List Int) (k : Nat) (hk : k < 1000) : (whereOf (lsOf sc) k).natAbs ≤ 100007 := by
  have ho := off_all (md (sg sc 13) 4) (md_lt _ (by decide))
  unfold whereOf
  split
  · rename_i h
    have hm := List.getElem_mem h
    obtain ⟨w, hw, e⟩ := List.mem_map.mp hm
    have := ws_mem sc w hw
    rw [← e]
    have ho' : (offOf sc).natAbs ≤ 99998 := ho
    omega
  · omega
theorem big4300 : 10 ^ 40 < 10 ^ 4300 := by decide +kernel
theorem big_of {v : Int} (h : v.natAbs < 10 ^ 40) : v.natAbs < 10 ^ 4300 := Nat.lt_trans h big4300
theorem rjust5 (x : Str) : (Txt.rjust x 5).length ≤ x.length + 5 := rjust_len x 5
theorem rjust6 (x : Str) : (Txt.rjust x 6).length ≤ x.length + 6 := rjust_len x 6
theorem hwb1 (sc : List Int) (k : Nat) (hk : k < 1000) : (whereOf ((wsOf sc).map (· + offOf sc)) k).natAbs < 10 ^ 4300 ∧ (numText (whereOf ((wsOf sc).map (· + offOf sc)) k)).length ≤ 100 := by
  have h : (whereOf ((wsOf sc).map (· + offOf sc)) k).natAbs ≤ 100007 := where_b sc k hk
  refine ⟨big_of (Nat.lt_of_le_of_lt h (by decide)), Nat.le_trans (numText_len (k := 6) (by decide) (Nat.lt_of_le_of_lt h (by decide))) (by decide)⟩

/-! moves -/
theorem sc_b (s : Int) : (scOf s).natAbs ≤ 10 ^ 18 := by
  have key : ∀ i, i < 3 → (SCALES.getD i 0).natAbs ≤ 10 ^ 18 := by decide +kernel
  exact key _ (md_lt s (by decide))
theorem ns_b (sc : List Int) : ∀ v ∈ nsOf sc, v.natAbs ≤ 3 := fun v hv => by
  unfold nsOf at hv
  have h1 := md_lt (sg sc 20) (k := 7) (by decide)
  have h2 := md_lt (sg sc 21) (k := 7) (by decide)
  have h3 := md_lt (sg sc 22) (k := 7) (by decide)
  rcases List.mem_cons.mp hv with rfl | hv
  · omega
  rcases List.mem_cons.mp hv with rfl | hv
  · omega
  rw [List.mem_singleton.mp hv]
  omega
theorem prod_b {v s : Int} (h : v.natAbs ≤ 3) (hs : s.natAbs ≤ 10 ^ 18) : (v * s).natAbs < 10 ^ 19 := by
  rw [Int.natAbs_mul]
  exact Nat.lt_of_le_of_lt (Nat.mul_le_mul h hs) (by decide)
theorem mv_b (sc : List Int) : ∀ m ∈ mvsOf sc, (∀ v ∈ m.st, v.natAbs < 10 ^ 19) ∧ m.arg.natAbs < 10 ^ 19 ∧ m.st.length ≤ 3 ∧ m.op.length ≤ 1000 ∧ (∃ j, j < 7 ∧ m.note = NOTES.getD j "") ∧ m.pc < 10 ^ 7 := fun m hm => by
  obtain ⟨q, _, rfl⟩ := List.mem_map.mp hm
  refine ⟨fun v hv => ?_, ?_, ?_, ?_, ⟨_, md_lt q.1 (by decide), rfl⟩, ?_⟩
  · obtain ⟨x, hx, rfl⟩ := List.mem_map.mp (List.mem_of_mem_take hv)
    exact prod_b (ns_b sc x hx) (sc_b _)
  · show ((nsOf sc).getD (md q.1 3) 0 * scOf q.2).natAbs < 10 ^ 19
    refine prod_b ?_ (sc_b _)
    have h3 : md q.1 3 < (nsOf sc).length := md_lt q.1 (by decide)
    have : (nsOf sc).getD (md q.1 3) 0 = (nsOf sc)[md q.1 3] := by simp [List.getD, h3]
    rw [this]
    exact ns_b sc _ (List.getElem_mem h3)
  · show (((nsOf sc).map (· * scOf q.2)).take (md q.2 4)).length ≤ 3
    rw [List.length_take, List.length_map]
    exact Nat.min_le_right _ _
  · have key : ∀ i, i < 5 → (OPS.getD i "").length ≤ 1000 := by decide +kernel
    exact key _ (md_lt q.1 (by decide))
  · show md q.1 12 * 99991 < 10 ^ 7
    have := md_lt q.1 (k := 12) (by decide)
    lia
theorem mvs_len (sc : List Int) : (mvsOf sc).length ≤ 1000 := by
  unfold mvsOf spOf
  rw [List.length_map, List.length_take]
  simp only [List.length_cons, List.length_nil]; lia
theorem evs_len (sc : List Int) : (evsOf sc).length ≤ 1000 := by
  unfold evsOf mkOf
  rw [List.length_map, List.length_take]
  simp only [List.length_cons, List.length_nil]; lia
theorem evs_b (sc : List Int) : ∀ e ∈ evsOf sc, e.1 < (txOf sc).length ∧ ∃ j, j < 7 ∧ e.2 = NOTES.getD j "" := fun e he => by
  obtain ⟨m, _, rfl⟩ := List.mem_map.mp he
  exact ⟨md_lt m (tx_len sc).1, _, md_lt m (by decide), rfl⟩
theorem note_b {x : Str} (h : ∃ j, j < 7 ∧ x = NOTES.getD j "") : x.length ≤ 1000 ∧ (Txt.split x " = ").length ≤ 65536 ∧ 0 < (Txt.split x " = ").length := by
  obtain ⟨j, hj, rfl⟩ := h
  exact notes_split j hj
theorem nm_ok (sc : List Int) {x : Str} (h : ∃ j, j < 7 ∧ x = NOTES.getD j "") : assignsT (nmOf sc) x = (nmOf sc).contains (headOf x) := by
  obtain ⟨j, hj, rfl⟩ := h
  exact notes_ok _ (md_lt _ (by decide)) j hj
theorem wd_b (sc : List Int) : 5 ≤ wdOf sc := by
  unfold wdOf
  split <;> lia

/-! the contracts, put together -/
theorem ps_text (T : Tops g) (q : Int × Int) : FnC g 2 "statement_text" [psD (progPS q)] (.str (psT (progPS q))) := by
  obtain ⟨c1, k1⟩ := T.k1
  obtain ⟨c8, k8⟩ := T.k8
  have hts : (progPS q).ts.length ≤ 20 ∧ (progPS q).k.length ≤ 1000 ∧ (progPS q).nm.length ≤ 1000 ∧ (toksT (progPS q).ts).length ≤ 100 ∧ (((progPS q).ts.map (·.2)).map (·.length)).sum ≤ 100000 := by
    have h1 := expr_len q.2
    have h2 := kind_len q.1
    have h3 := words_len q.2
    rw [← (words_is q.2).1] at h3
    have h4 : (((exprOf q.2).map (·.2)).map (·.length)).sum ≤ 100000 := by
      have := StrLaws.sumLen_le (B := 20) ((exprOf q.2).map (·.2)) fun y hy => ?_
      · rw [List.length_map] at this
        have : (exprOf q.2).length * 20 ≤ 20 * 20 := Nat.mul_le_mul_right _ h1
        lia
      · obtain ⟨t, ht, rfl⟩ := List.mem_map.mp hy
        unfold exprOf at ht
        rcases List.mem_append.mp ht with ht | ht
        · have key : ∀ i, i < 5 → ∀ t ∈ FIRST.getD i [], t.2.length ≤ 20 := by decide +kernel
          exact key _ (md_lt q.2 (by decide)) t ht
        · obtain ⟨l, hl, ht⟩ := List.mem_flatten.mp ht
          rw [(List.mem_replicate.mp hl).2] at ht
          have key : ∀ t ∈ MORE, t.2.length ≤ 20 := by decide +kernel
          exact key t ht
    have n1 : (Str.ofString "n").length = 1 := rfl
    have n0 : (Str.ofString "").length = 0 := rfl
    have t0 : (toksT []).length = 0 := by decide +kernel
    unfold progPS
    split
    · exact ⟨h1, by show (kindOf' q.1).length ≤ _; lia, by show (Str.ofString "n").length ≤ _; lia, h3, h4⟩
    · split
      · exact ⟨Nat.zero_le _, by show (kindOf' q.1).length ≤ _; lia, by show (Str.ofString "").length ≤ _; lia, by show (toksT []).length ≤ _; lia, Nat.zero_le _⟩
      · exact ⟨h1, by show (kindOf' q.1).length ≤ _; lia, by show (Str.ofString "").length ≤ _; lia, h3, h4⟩
  obtain ⟨a, b, c, d, e⟩ := hts
  exact f_statement_text k8 (f_token_text (n := 0) k1 (by lia) (by lia)) b c (by lia)
theorem num_text (T : Tops g) {v : Int} (h : v.natAbs < 10 ^ 19) : FnC g 7 "number_text" [.int v] (.str (numText v)) := by
  obtain ⟨c5, k5, hC⟩ := T.k5
  exact f_number_text (n := 0) k5 hC T.blt T.piece T.digits (Nat.lt_trans h (by decide)) num_hpure num_hneg num_hpos num_hlen
theorem src_fn (T : Tops g) (sc : List Int) : FnC g 1 "source_lines" [.str (srcOf sc)] (.list (intD (wsOf sc))) := by
  obtain ⟨c7, k7⟩ := T.k7
  have := f_source_lines (n := 0) (x := srcOf sc) k7 T.blt (src_short sc) (by rw [src_split]; have := pa_len sc; lia) (by rw [src_split]; intro y hy; have := (pa_part sc y hy).2; lia)
  rw [src_split, src_ws] at this
  exact this
theorem st_tx (sc : List Int) : (stOf sc).map psT = txOf sc := by
  unfold stOf txOf
  rw [List.map_map]
  exact List.map_congr_left fun q _ => prog_is q
theorem st_len (sc : List Int) : (stOf sc).length = (txOf sc).length := by rw [← st_tx, List.length_map]
theorem page_is (sc : List Int) : (evsOf sc).map (rowR ((wsOf sc).map (· + offOf sc)) ((stOf sc).map psT)) = pgOf sc := by
  rw [st_tx]
  exact List.map_congr_left fun e _ => rowR_is _ _ e
theorem render_body (T : Tops g) (sc : List Int) (cd df pm doc : Value) (L a : Addr) (X₀ : List Addr) :
    Ex g 2 X₀ (envAt 10 pm cd doc df L a) (fzs ["src", "stmts", "events", "offset"] [.str (srcOf sc), .list ((stOf sc).map psD), .list ((evsOf sc).map evD), .int (offOf sc)]) (fBody (fnAt 10)) (fun f _ => f = .ret (.list (strD (pgOf sc)))) := by
  have h3 := tx_len sc
  have h4 := st_len sc
  have h5 := ws_len sc
  have h6 := ts_len sc
  have := b_render (n := 2) (cd := cd) (df := df) T.blt (x := srcOf sc) (ws := wsOf sc) (ss := stOf sc) (evs := evsOf sc) (off := offOf sc) ((src_fn T sc).le (by decide)) (fun s hs => ?_) (by lia) (by lia) (evs_len sc)
    (fun e he => ⟨by rw [h4]; exact (evs_b sc e he).1, (note_b (evs_b sc e he).2).1⟩) (fun s hs => ?_) (fun k hk => ⟨(hwb1 sc k hk).1, ?_⟩) pm doc L a X₀
  · rw [page_is] at this
    exact this
  · obtain ⟨q, _, rfl⟩ := List.mem_map.mp hs
    exact ps_text T q
  · have : psT s ∈ txOf sc := by rw [← st_tx]; exact List.mem_map.mpr ⟨s, hs, rfl⟩
    exact Nat.le_trans (tx_short sc _ this) (by decide)
  · rw [spec5]
    have h7 := (hwb1 sc k hk).2
    have h8 := rjust5 (numText (whereOf ((wsOf sc).map (· + offOf sc)) k))
    lia
theorem mach_body (T : Tops g) (sc : List Int) {cd df pm doc : Value} (hC : ∃ c P, cd = .ref c ∧ (c, P) ∈ g.W.C) (L a : Addr) (X₀ : List Addr) :
    Ex g 11 X₀ (envAt 11 pm cd doc df L a) (fzs ["events", "width"] [.list ((mvsOf sc).map mvD), .int (wdOf sc)]) (fBody (fnAt 11)) (fun f _ => f = .ret (.list (strD (mpOf sc)))) := by
  have := b_render_machine (n := 4) (cd := cd) (df := df) T.blt hC (ms := mvsOf sc) (w := wdOf sc) (mvs_len sc) (fun m hm => ?_) pm doc L a X₀
  · rw [show (mvsOf sc).map (rowM (wdOf sc)) = mpOf sc from List.map_congr_left fun m _ => rowM_is (wd_b sc) m] at this
    exact this
  · obtain ⟨a1, a2, a3, a4, a5, a6⟩ := mv_b sc m hm
    refine ⟨fun v hv => ⟨num_text T (a1 v hv), Nat.le_trans (numText_len (k := 19) (by decide) (a1 v hv)) (by decide)⟩, (num_text T a2).le (by decide), Nat.le_trans (numText_len (k := 19) (by decide) a2) (by decide), by lia, a4, (note_b a5).1, ?_, ?_⟩
    · exact big_of (Nat.lt_trans (show ((m.pc : Int)).natAbs < 10 ^ 7 by rw [Int.natAbs_natCast]; exact a6) (by decide))
    · rw [spec6]
      have h8 := rjust6 (numText (m.pc : Int))
      have h9 := numText_len (m := (m.pc : Int)) (k := 7) (by decide) (by rw [Int.natAbs_natCast]; exact a6)
      lia
theorem last_e (e : Nat × Str) : ∃ ds k, evD e = .tuple ds ∧ seqIndex? (-1) ds.length = some k ∧ ds[k]? = some (.str e.2) := ⟨_, 1, rfl, rfl, rfl⟩
theorem last_m (m : Mv1) : ∃ ds k, mvD m = .tuple ds ∧ seqIndex? (-1) ds.length = some k ∧ ds[k]? = some (.str m.note) := ⟨_, 3, rfl, rfl, rfl⟩
theorem law_ok (T : Tops g) (sc : List Int) : LawOk g 12 sc := by
  obtain ⟨c9, k9⟩ := T.k9
  obtain ⟨c10, T10, t10, m10, k10, d10⟩ := T.k10
  obtain ⟨c11, T11, t11, m11, k11, d11, hC11⟩ := T.k11
  obtain ⟨c12, k12, hC12⟩ := T.k12
  obtain ⟨c13, k13⟩ := T.k13
  obtain ⟨c25, k25⟩ := T.k25
  obtain ⟨c26, k26⟩ := T.k26
  obtain ⟨c27, k27⟩ := T.k27
  obtain ⟨c28, k28⟩ := T.k28
  obtain ⟨c29, k29⟩ := T.k29
  obtain ⟨c30, k30⟩ := T.k30
  obtain ⟨c31, k31⟩ := T.k31
  obtain ⟨c32, k32⟩ := T.k32
  obtain ⟨c33, k33⟩ := T.k33
  have h3 := tx_len sc
  have h5 := ws_len sc
  have h6 := ts_len sc
  have h7 := pa_len sc
  have hql : (qsOf sc).length ≤ 1000 := by have := h3.2; unfold txOf at this; rw [List.length_map] at this; lia
  have hcs : (csOf sc).length = (txOf sc).length := by unfold csOf; rw [List.length_take]; simp only [List.length_cons, List.length_nil]; lia
  have htm : (tmOf sc).length = (txOf sc).length := by unfold tmOf; rw [List.length_take]; simp only [List.length_cons, List.length_nil]; lia
  have hr4 := f_render4 (n := 2) k10 d10 (render_body T sc c10 (.ref T10))
  have hm2 := f_render_machine2 (n := 11) k11 d11 fun pm doc => mach_body (pm := pm) (doc := doc) (df := .ref T11) T sc hC11
  have hnm := names_ok (md (sg sc 14) 4) (md_lt _ (by decide))
  have hwE := f_watched (n := 0) (es := evsOf sc) (inj := evD) (noteOf := (·.2)) (names := nmOf sc) (keep := kpOf sc) k12 T.blt hC12 (evs_len sc) hnm (fun e _ => last_e e)
  have hwM := f_watched (n := 0) (es := mvsOf sc) (inj := mvD) (noteOf := (·.note)) (names := nmOf sc) (keep := kpOf sc) k12 T.blt hC12 (mvs_len sc) hnm (fun e _ => last_m e)
  rw [watched_is fun e he => nm_ok sc (evs_b sc e he).2] at hwE
  rw [watched_is fun m hm => nm_ok sc (mv_b sc m hm).2.2.2.2.1] at hwM
  exact {
    prog := (f_program (n := 0) k25 T.dat hql).le (by decide)
    source := (f_source (n := 0) (ts := tsOf sc) (b := sg sc 7) k26 T.blt T.dat (by lia) fun t ht => Nat.le_trans (tx_short sc t (ts_sub sc t ht)) (by decide)).le (by decide)
    events := (f_events (n := 0) (ms := mkOf sc) k27 T.dat h3.1 (by unfold mkOf; rw [List.length_take]; simp only [List.length_cons, List.length_nil]; lia)).le (by decide)
    render0 := fun h0 => by
      refine (f_render3 (n := 2) k10 d10 fun pm doc L a X₀ => ?_).le (by decide)
      have := render_body T sc c10 (.ref T10) pm doc L a X₀
      rw [h0] at this
      exact this
    render1 := hr4.le (by decide)
    page := (f_page (n := 0) k29 T.blt (by lia) (by lia) (evs_len sc) (fun e he => ⟨(evs_b sc e he).1, (note_b (evs_b sc e he).2).1⟩) (fun t ht => Nat.le_trans (tx_short sc t ht) (by decide)) fun k hk => ⟨(hwb1 sc k hk).1, Nat.le_trans (hwb1 sc k hk).2 (by decide)⟩).le (by decide)
    moves := (f_moves (n := 0) k28 T.dat (by unfold spOf; rw [List.length_take]; simp only [List.length_cons, List.length_nil]; lia) rfl).le (by decide)
    mach0 := fun h0 => by
      refine (f_render_machine1 (n := 11) k11 d11 fun pm doc L a X₀ => ?_)
      have := mach_body (pm := pm) (doc := doc) (df := .ref T11) T sc hC11 L a X₀
      rw [h0] at this
      exact this
    mach1 := hm2
    mpage := (f_machine_page (n := 0) k30 T.blt (mvs_len sc) fun m hm => by
      obtain ⟨a1, a2, a3, a4, a5, a6⟩ := mv_b sc m hm
      have h9 := numText_len (m := (m.pc : Int)) (k := 7) (by decide) (by rw [Int.natAbs_natCast]; exact a6)
      refine ⟨fun v hv => ⟨big_of (Nat.lt_trans (a1 v hv) (by decide)), Nat.le_trans (numText_len (k := 19) (by decide) (a1 v hv)) (by decide)⟩, big_of (Nat.lt_trans a2 (by decide)), Nat.le_trans (numText_len (k := 19) (by decide) a2) (by decide), by lia, a4, (note_b a5).1, big_of (Nat.lt_trans (show ((m.pc : Int)).natAbs < 10 ^ 7 by rw [Int.natAbs_natCast]; exact a6) (by decide)), by lia⟩).le (by decide)
    watchE := hwE.le (by decide)
    keptE := (f_kept (n := 0) (es := evsOf sc) (inj := evD) (noteOf := (·.2)) k31 T.blt (evs_len sc) fun e he => ⟨last_e e, note_b (evs_b sc e he).2⟩).le (by decide)
    watchM := hwM.le (by decide)
    keptM := (f_kept (n := 0) (es := mvsOf sc) (inj := mvD) (noteOf := (·.note)) k31 T.blt (mvs_len sc) fun m hm => ⟨last_m m, note_b (mv_b sc m hm).2.2.2.2.1⟩).le (by decide)
    byline := by
      obtain ⟨ps, last, e⟩ : ∃ ps last, paOf sc = ps ++ [last] := ⟨_, _, (List.dropLast_concat_getLast (src_ne (sg sc 7) (tsOf sc))).symm⟩
      have hnd := sLines_nodup (paOf sc)
      rw [src_ws] at hnd
      have h := f_by_line (n := 1) (x := srcOf sc) (ws := wsOf sc) (cs := csOf sc) (ts := tmOf sc) k13 T.blt (src_fn T sc) hnd (by lia) (src_short sc) (by rw [src_split]; lia) (ps := ps) (last := last) (by rw [src_split, e])
      have hr := rows_is (ps := ps) (last := last) (ws := wsOf sc) (cs := csOf sc) (ts := tmOf sc) (by lia) (by lia) (fun hl hm => by
        rw [← src_ws] at hm
        obtain ⟨i, x, hx, hi, e2⟩ := mem_sLines hm
        have ei : i = ps.length := by lia
        rw [e, ei] at hx
        have : x = last := by simpa using hx.symm
        rw [this, hl] at hi
        exact absurd hi (by decide +kernel))
      rw [← e] at hr
      have hr2 : ((if last == "" then ps else ps ++ [last]).zipIdx 1).map (rowF (wsOf sc) (csOf sc) (tmOf sc)) = rwOf sc := by rw [← e]; exact hr
      rw [← hr2]
      exact FnC.le (n := 2) (m := 12) h (by decide)
    rows := (f_rows (n := 0) k32 T.blt (by lia) (by lia) (by lia) (by lia)).le (by decide)
    atLine := fun line => (f_statement_at_line (n := 1) k9 T.blt (src_fn T sc)).le (by decide)
    first := fun line => (f_first_from (n := 0) k33 T.blt (by lia)).le (by decide)
    join := by have := pa_sum sc; lia
    txl := h3.2 }
/-- the law holds -/
theorem law_true (T : Tops g) {sc : List Int} (hb : sc.length ≤ 2 ^ 20) : FnC g 13 "law" [.list (intD sc)] (.bool true) := by
  obtain ⟨c34, k34⟩ := T.k34
  exact f_law k34 T.blt T.dat hb fun _ => law_ok T sc
end
end Mine
set_option Elab.async false
set_option maxRecDepth 100000
set_option linter.unusedVariables false
set_option tactic.hygienic false
namespace Mine
open PySem PyProof.Rows PySem.W PySem.W.X

/-! what the written heap says -/
noncomputable def tabs : List Addr := [21, 54, 61]
noncomputable def tops : List Addr := (List.range 170).filter fun a => !tabs.contains a
noncomputable def pick (K : Frag) : List (Addr × Obj) := tops.filterMap fun a => (K.lookup a).map fun o => (a, o)
theorem mem_pick {K : Frag} {a : Addr} {o : Obj} : (a, o) ∈ pick K ↔ a ∈ tops ∧ K.lookup a = some o := by
  unfold pick
  rw [List.mem_filterMap]
  constructor
  · rintro ⟨b, hb, e⟩
    cases h : K.lookup b with
    | none => rw [h] at e; cases e
    | some o' => rw [h] at e; cases e; exact ⟨hb, h⟩
  · rintro ⟨hb, e⟩
    exact ⟨a, hb, by rw [e]; rfl⟩
theorem mem_tops {a : Addr} (h : a ∈ tops) : a < 170 ∧ a ∉ tabs := by
  obtain ⟨h1, h2⟩ := List.mem_filter.mp h
  refine ⟨List.mem_range.mp h1, fun h3 => ?_⟩
  have : tabs.contains a = true := List.elem_eq_true_of_mem h3
  rw [this] at h2; cases h2
noncomputable def fnData (K : Frag) (a : Addr) : Option FuncData := match K.lookup a with
  | some ⟨_, _, .func fd, _⟩ => some fd
  | _ => none
noncomputable def strAt : Option Value → Option Str
  | some (.str x _) => some x
  | _ => none
noncomputable def codeName (K : Frag) (c : Addr) : Option Str := match K.lookup c with
  | some ⟨_, _, .fields vs, _⟩ => strAt (vs[1]?)
  | _ => none
noncomputable def isS : Value → Bool | .str _ _ => true | _ => false
noncomputable def isI : Value → Bool | .int _ _ => true | _ => false
noncomputable def isB : Value → Bool | .bool _ => true | _ => false
noncomputable def isR (P : Addr) : Value → Bool | .ref Q => Q == P | _ => false
noncomputable def isTy (n : String) : Value → Bool | .type m => m == n | _ => false
noncomputable def isN : Value → Bool | .none => true | _ => false
noncomputable def tabAt (K : Frag) (P : Addr) : Bool := match K.lookup P with
  | some ⟨c, d, .fields ps, sl⟩ => isN c && d.isNone && ps.isEmpty && sl.isEmpty
  | _ => false
noncomputable def tabOk (K : Frag) (c P : Addr) : Bool := (match K.lookup c with
  | some ⟨cl, _, .fields vs, _⟩ => isTy "code" cl && isR P (vs.getD 11 .none) && isS (vs.getD 18 .none) && isI (vs.getD 7 .none) && isB (vs.getD 9 .none) && isI (vs.getD 10 .none)
  | _ => false) && tabAt K P
theorem isS_is {v : Value} (h : isS v = true) : ∃ x t, v = .str x t := by cases v <;> first | exact ⟨_, _, rfl⟩ | cases h
theorem isI_is {v : Value} (h : isI v = true) : ∃ x t, v = .int x t := by cases v <;> first | exact ⟨_, _, rfl⟩ | cases h
theorem isB_is {v : Value} (h : isB v = true) : ∃ x, v = .bool x := by cases v <;> first | exact ⟨_, rfl⟩ | cases h
theorem isN_is {v : Value} (h : isN v = true) : v = .none := by cases v <;> first | rfl | cases h
theorem isR_is {P : Addr} : ∀ {v : Value}, isR P v = true → v = .ref P
  | .ref Q, h => congrArg Value.ref ((beq_iff_eq (α := Nat)).mp h)
theorem isTy_is {n : String} : ∀ {v : Value}, isTy n v = true → v = .type n
  | .type m, h => congrArg Value.type (beq_iff_eq.mp h)
set_option tactic.hygienic true in
theorem tabAt_is {K : Frag} {P : Addr} (h : tabAt K P = true) : K.lookup P = some { cls := .none, data := .fields #[] } := by
  unfold tabAt at h
  split at h
  · rename_i c d ps sl e
    simp only [Bool.and_eq_true] at h
    obtain ⟨⟨⟨h1, h2⟩, h3⟩, h4⟩ := h
    rw [e, isN_is h1, Option.isNone_iff_eq_none.mp h2, Array.isEmpty_iff.mp h3, Array.isEmpty_iff.mp h4]
  · cases h
set_option tactic.hygienic true in
theorem tabOk_is {K : Frag} {c P : Addr} (h : tabOk K c P = true) (hcP : c ≠ P) {hp : Heap} (KX : K.In hp) : hp.IsCode c P #[] ∧ hp.TableAt c P #[] := by
  unfold tabOk at h
  rw [Bool.and_eq_true] at h
  obtain ⟨h, ht⟩ := h
  have eP := KX _ _ (tabAt_is ht)
  split at h
  · rename_i cl d vs sl e
    simp only [Bool.and_eq_true] at h
    obtain ⟨⟨⟨⟨⟨h1, h2⟩, h3⟩, h4⟩, h5⟩, h6⟩ := h
    obtain ⟨x3, t3, e3⟩ := isS_is h3
    obtain ⟨x4, t4, e4⟩ := isI_is h4
    obtain ⟨x5, e5⟩ := isB_is h5
    obtain ⟨x6, t6, e6⟩ := isI_is h6
    have e2 := isR_is h2
    have ec := KX _ _ e
    refine ⟨⟨_, vs, x3, t3, x4, t4, x5, x6, t6, _, ec, rfl, e2, e3, e4, e5, e6, eP, rfl, trivial, hcP⟩, ⟨_, vs, ec, isTy_is h1, rfl, ?_⟩, eP⟩
    rw [Array.getD_eq_getD_getElem?] at e2
    cases hv : vs[11]? with
    | none => rw [hv] at e2; cases e2
    | some v => rw [hv] at e2; exact congrArg some e2
  · cases h

/-! reading data -/
noncomputable def rdAll (f : Value → Option PyData) : List Value → Option (List PyData)
  | [] => some []
  | v :: vs => match f v, rdAll f vs with
    | some d, some ds => some (d :: ds)
    | _, _ => none
/-- a bare sequence of the written heap -/
noncomputable def seqAt (K : Frag) (a : Addr) : Option (Value × Array Value × Nat) := match K.lookup a with
  | some ⟨cl, none, .seq vs m, sl⟩ => if sl.isEmpty then some (cl, vs, m) else none
  | _ => none
noncomputable def rdStep (K : Frag) (f : Value → Option PyData) : Value → Option PyData
  | .int i _ => some (.int i)
  | .str x _ => some (.str x)
  | .ref a => if tops.contains a then (seqAt K a).bind fun q => if isTy "list" q.1 then (rdAll f q.2.1.toList).map .list else if isTy "tuple" q.1 then (rdAll f q.2.1.toList).map .tuple else none else none
  | _ => none
noncomputable def rdK (K : Frag) (n : Nat) : Value → Option PyData := @Nat.rec (fun _ => Value → Option PyData) (fun _ => none) (fun _ f => rdStep K f) n

noncomputable def mkW (K : Frag) (mg mb : Str → Option Value) : WC := { n₀ := 170, mg, mb, K := pick K, C := [(25, 21), (58, 54), (65, 61)] }
theorem mkW_ok {K : Frag} {mg mb : Str → Option Value} {o : Obj} (h : K.lookup 169 = some o) : (mkW K mg mb).Ok where
  lo := by show mainGlobals < 170 ∧ builtinsNs < 170 ∧ cStatics < 170; decide
  loT := by show mainGlobals ∉ tabs ∧ builtinsNs ∉ tabs ∧ cStatics ∉ tabs; decide
  k := fun p hp => mem_tops (mem_pick.mp (show (p.1, p.2) ∈ pick K from hp)).1
  c := by show ∀ q ∈ [((25 : Addr), (21 : Addr)), (58, 54), (65, 61)], q.1 < 170 ∧ q.2 < 170 ∧ q.1 ∉ tabs; decide
  nd := by show tabs.Nodup; decide
  top := ⟨169, o, mem_pick.mpr ⟨by decide, h⟩, rfl⟩

section
variable {K : Frag} {g : G} {mg mb : Str → Option Value}
set_option tactic.hygienic true in
theorem rdAll_is {f : Value → Option PyData} (hf : ∀ v d, f v = some d → Kd g v d) : ∀ {vs : List Value} {ds : List PyData}, rdAll f vs = some ds → Kds g vs ds
  | [], ds, h => by cases h; exact Kds.nil
  | v :: vs, ds, h => by
    unfold rdAll at h
    split at h
    · rename_i d ds' e1 e2
      cases h
      exact Kds.cons (hf v d e1) (rdAll_is hf e2)
    · cases h
set_option tactic.hygienic true in
theorem seqAt_is {a : Addr} {q : Value × Array Value × Nat} (h : seqAt K a = some q) : K.lookup a = some { cls := q.1, data := .seq q.2.1 q.2.2 } := by
  unfold seqAt at h
  split at h
  · rename_i cl vs m sl e
    split at h
    · rename_i hs
      cases h
      rw [e, Array.isEmpty_iff.mp hs]
    · cases h
  · cases h
theorem rdStep_is (hW : g.W = mkW K mg mb) {f : Value → Option PyData} (hf : ∀ v d, f v = some d → Kd g v d) (v : Value) (d : PyData) (h : rdStep K f v = some d) : Kd g v d := by
  cases v with
  | int i t => cases h; exact Kd.int i t
  | str i t => cases h; exact Kd.str i t
  | ref a =>
    unfold rdStep at h
    dsimp only at h
    by_cases ha : tops.contains a = true
    · rw [if_pos ha] at h
      obtain ⟨⟨cl, vs, m⟩, e, h⟩ := Option.bind_eq_some_iff.mp h
      have e := seqAt_is e
      have hk : (a, ({ cls := cl, data := .seq vs m } : Obj)) ∈ g.W.K := by rw [hW]; exact mem_pick.mpr ⟨List.contains_iff_mem.mp ha, e⟩
      by_cases hc : isTy "list" cl = true
      · rw [if_pos hc] at h
        obtain ⟨ds, hr, h⟩ := Option.map_eq_some_iff.mp h
        rw [isTy_is hc] at hk
        exact h ▸ Kd.list (vs := vs.toList) (k := m) hk (rdAll_is hf hr)
      · rw [if_neg hc] at h
        by_cases hc : isTy "tuple" cl = true
        · rw [if_pos hc] at h
          obtain ⟨ds, hr, h⟩ := Option.map_eq_some_iff.mp h
          rw [isTy_is hc] at hk
          exact h ▸ Kd.tuple (vs := vs.toList) (k := m) hk (rdAll_is hf hr)
        · rw [if_neg hc] at h; cases h
    · rw [if_neg ha] at h; cases h
  | _ => cases h
theorem rdK_is (hW : g.W = mkW K mg mb) (n : Nat) : ∀ (v : Value) (d : PyData), rdK K n v = some d → Kd g v d := by
  induction n with
  | zero => intro v d h; cases h
  | succ n ih => exact rdStep_is hW ih
end
end Mine
set_option Elab.async false
set_option maxRecDepth 100000
set_option linter.unusedVariables false
set_option tactic.hygienic false
namespace Mine
open PySem PyProof.Rows PySem.W PySem.W.X

/-- a function of the written heap -/
structure FF (K : Frag) (k : Nat) (a c : Addr) (df : Value) : Prop where
  mg : nsIn K mainGlobals (fName (fnAt k)) = some (some (.ref a))
  dt : fnData K a = (fnData K a).map (fun fd => fdOf k fd.pyModule (.ref c) fd.doc df)
  is : (fnData K a).isSome = true
  cd : codeName K c = some (fName (fnAt k))
noncomputable def gdK (K : Frag) (x : Str) : Option PyData := match nsIn K mainGlobals x with
  | some (some v) => rdK K 5 v
  | _ => none
structure Facts (K : Frag) : Prop where
  f1 : FF K 1 19 18 .none
  f5 : FF K 5 26 25 .none
  f7 : FF K 7 31 30 .none
  f8 : FF K 8 38 37 .none
  f9 : FF K 9 45 44 .none
  f10 : FF K 10 51 50 (.ref 46)
  f11 : FF K 11 59 58 (.ref 52)
  f12 : FF K 12 66 65 .none
  f13 : FF K 13 71 70 .none
  f25 : FF K 25 112 111 .none
  f26 : FF K 26 119 118 .none
  f27 : FF K 27 124 123 .none
  f28 : FF K 28 129 128 .none
  f29 : FF K 29 136 135 .none
  f30 : FF K 30 141 140 .none
  f31 : FF K 31 148 147 .none
  f32 : FF K 32 155 154 .none
  f33 : FF K 33 162 161 .none
  f34 : FF K 34 169 168 .none
  d10 : K.lookup 46 = some (tupObj [.int 0 248] 0)
  d11 : K.lookup 52 = some (tupObj [.int 60 255] 0)
  t5 : tabOk K 25 21 = true
  t11 : tabOk K 58 54 = true
  t12 : tabOk K 65 61 = true
  piece : gdK K "PIECE" = some (.int PIE)
  digits : gdK K "PIECE_DIGITS" = some (.int 18)
  kinds : gdK K "_law_KINDS" = some (.tuple (strD KINDS))
  first : gdK K "_law_FIRST" = some (.tuple (FIRST.map fun ts => .list (ts.map tokD)))
  firstT : gdK K "_law_FIRST_TEXT" = some (.tuple (strD FIRSTT))
  gaps : gdK K "_law_GAPS" = some (.tuple (GAPS.map fun l => .list (strD l)))
  tails : gdK K "_law_TAILS" = some (.tuple (TAILS.map fun l => .list (strD l)))
  notes : gdK K "_law_NOTES" = some (.tuple (strD NOTES))
  names : gdK K "_law_NAMES" = some (.tuple (NAMES.map fun l => .list (strD l)))
  offs : gdK K "_law_OFFSETS" = some (.tuple (intD OFFS))
  ops : gdK K "_law_OPS" = some (.tuple (strD OPS))
  scales : gdK K "_law_SCALES" = some (.tuple (intD SCALES))
  n1 : nsIn K mainGlobals "len" = some none
  n2 : nsIn K mainGlobals "str" = some none
  n3 : nsIn K mainGlobals "min" = some none
  n4 : nsIn K mainGlobals "max" = some none
  n5 : nsIn K mainGlobals "enumerate" = some none
  n6 : nsIn K mainGlobals "range" = some none
  n7 : nsIn K mainGlobals "reversed" = some none
  n8 : nsIn K mainGlobals "any" = some none
  n9 : nsIn K mainGlobals "dict" = some none
  n10 : nsIn K mainGlobals "zip" = some none
  n11 : nsIn K mainGlobals "list" = some none
  n12 : nsIn K mainGlobals "type" = some none
  n13 : nsIn K mainGlobals "int" = some none
  n14 : nsIn K mainGlobals "bool" = some none
  bm : nsIn K mainGlobals "__builtins__" = some (some (.ref 4))
  bo : (K.lookup 4).isSome = true

section
variable {K : Frag} {g : G} {mg mb : Str → Option Value} {h : Heap}
set_option tactic.hygienic true in
theorem fnData_is {a : Addr} {fd : FuncData} (e : fnData K a = some fd) : ∃ ob, K.lookup a = some ob ∧ ob.data = .func fd := by
  unfold fnData at e
  split at e
  · rename_i c d fd' sl q
    cases e
    exact ⟨_, q, rfl⟩
  · cases e
set_option tactic.hygienic true in
theorem codeName_is {c : Addr} {x : Str} (e : codeName K c = some x) : ∃ oc vs t, K.lookup c = some oc ∧ oc.data = .fields vs ∧ vs[1]? = some (.str x t) := by
  unfold codeName at e
  split at e
  · rename_i cl d vs sl q
    unfold strAt at e
    split at e
    · rename_i y t q2
      cases e
      exact ⟨_, vs, t, q, rfl, q2⟩
    · cases e
  · cases e
theorem FF.fnk {k : Nat} {a c : Addr} {df : Value} (F : FF K k a c df) (hW : g.W = mkW K mg mb) (KX : K.In h) (G : h.Ns mainGlobals mg) (ha : a ∈ tops := by decide) (hc : c ∈ tops := by decide) : FnK g k df (.ref c) := by
  obtain ⟨fd, e⟩ := Option.isSome_iff_exists.mp F.is
  have dt := F.dt
  rw [e] at dt
  obtain ⟨ob, e1, e2⟩ := fnData_is e
  obtain ⟨oc, vs, t, e3, e4, e5⟩ := codeName_is F.cd
  refine ⟨⟨a, ob, fd.pyModule, fd.doc, ?_, ?_, ?_⟩, c, oc, vs, t, rfl, ?_, e4, e5⟩
  · rw [hW]; exact mg_of KX G F.mg
  · rw [hW]; exact mem_pick.mpr ⟨ha, e1⟩
  · rw [e2]; exact congrArg Data.func (Option.some.inj dt)
  · rw [hW]; exact mem_pick.mpr ⟨hc, e3⟩
set_option tactic.hygienic true in
theorem gd_is {x : Str} {d : PyData} (e : gdK K x = some d) (hW : g.W = mkW K mg mb) (KX : K.In h) (G : h.Ns mainGlobals mg) : Gd g x d := by
  unfold gdK at e
  split at e
  · rename_i v q
    exact ⟨v, by rw [hW]; exact mg_of KX G q, rdK_is hW 5 v d e⟩
  · cases e
theorem bn_is {x : Str} {v : Value} (e : nsIn K mainGlobals x = some none) (hW : g.W = mkW K mg mb) (KX : K.In h) (G : h.Ns mainGlobals mg) (bb : ∀ x : Str, x ≠ "__name__" → mb x = bootBuiltins x) (hv : bootBuiltins x = some v := by decide +kernel) (hx : x ≠ "__name__" := by decide +kernel) : Bn g x v :=
  ⟨by rw [hW]; exact mg_none_of KX G e, by rw [hW]; exact (bb x hx).trans hv⟩
theorem tops_of (F : Facts K) (hW : g.W = mkW K mg mb) (KX : K.In h) (G : h.Ns mainGlobals mg) (bb : ∀ x : Str, x ≠ "__name__" → mb x = bootBuiltins x)
    (hbm : ∃ bm ob, mg "__builtins__" = some (.ref bm) ∧ bm ≠ builtinsNs ∧ h.get? bm = some ob ∧ ob.cls = .type "module" ∧ ob.dict = some builtinsNs ∧ ob.data = .plain) : Tops g where
  blt := {
    len := bn_is F.n1 hW KX G bb
    str := bn_is F.n2 hW KX G bb
    min := bn_is F.n3 hW KX G bb
    max := bn_is F.n4 hW KX G bb
    enumerate := bn_is F.n5 hW KX G bb
    range := bn_is F.n6 hW KX G bb
    reversed := bn_is F.n7 hW KX G bb
    any := bn_is F.n8 hW KX G bb
    dict := bn_is F.n9 hW KX G bb
    zip := bn_is F.n10 hW KX G bb
    list := bn_is F.n11 hW KX G bb
    type := bn_is F.n12 hW KX G bb
    int := bn_is F.n13 hW KX G bb
    bool := bn_is F.n14 hW KX G bb
    bf := fun A s Q hw hq => by
      obtain ⟨bm, ob, h1, h2, h3, h4, h5, h6⟩ := hbm
      obtain ⟨ob', e⟩ := Option.isSome_iff_exists.mp F.bo
      have e4 := mg_of KX G F.bm
      rw [h1] at e4
      cases e4
      have := KX _ _ e
      rw [h3] at this
      cases this
      have hg := hw.g
      have hk := hw.k (4, ob) (by rw [hW]; exact mem_pick.mpr ⟨by decide, e⟩)
      rw [hW] at hg
      exact wpAny_builtinsFor hg h1 h2 hk h4 h5 h6 hq }
  dat := ⟨gd_is F.kinds hW KX G, gd_is F.first hW KX G, gd_is F.firstT hW KX G, gd_is F.gaps hW KX G, gd_is F.tails hW KX G, gd_is F.notes hW KX G, gd_is F.names hW KX G, gd_is F.offs hW KX G, gd_is F.ops hW KX G, gd_is F.scales hW KX G⟩
  piece := gd_is F.piece hW KX G
  digits := gd_is F.digits hW KX G
  k1 := ⟨_, F.f1.fnk hW KX G⟩
  k5 := ⟨_, F.f5.fnk hW KX G, 25, 21, rfl, by rw [hW]; exact .head _⟩
  k7 := ⟨_, F.f7.fnk hW KX G⟩
  k8 := ⟨_, F.f8.fnk hW KX G⟩
  k9 := ⟨_, F.f9.fnk hW KX G⟩
  k10 := ⟨_, _, _, _, F.f10.fnk hW KX G, by rw [hW]; exact mem_pick.mpr ⟨by decide, F.d10⟩⟩
  k11 := ⟨_, _, _, _, F.f11.fnk hW KX G, by rw [hW]; exact mem_pick.mpr ⟨by decide, F.d11⟩, 58, 54, rfl, by rw [hW]; exact .tail _ (.head _)⟩
  k12 := ⟨_, F.f12.fnk hW KX G, 65, 61, rfl, by rw [hW]; exact .tail _ (.tail _ (.head _))⟩
  k13 := ⟨_, F.f13.fnk hW KX G⟩
  k25 := ⟨_, F.f25.fnk hW KX G⟩
  k26 := ⟨_, F.f26.fnk hW KX G⟩
  k27 := ⟨_, F.f27.fnk hW KX G⟩
  k28 := ⟨_, F.f28.fnk hW KX G⟩
  k29 := ⟨_, F.f29.fnk hW KX G⟩
  k30 := ⟨_, F.f30.fnk hW KX G⟩
  k31 := ⟨_, F.f31.fnk hW KX G⟩
  k32 := ⟨_, F.f32.fnk hW KX G⟩
  k33 := ⟨_, F.f33.fnk hW KX G⟩
  k34 := ⟨_, F.f34.fnk hW KX G⟩
theorem wd_of (F : Facts K) (KX : K.In h) (G : h.Ns mainGlobals mg) (Gb : h.Ns builtinsNs mb) (nl : h.NoLimit) (nd : ∃ mc, h.Ns cStatics mc ∧ mc "sys.int_max_str_digits" = none) : Wd (mkW K mg mb) h where
  g := G
  b := Gb
  nl := nl
  nd := nd
  k := fun p hp => KX _ _ (mem_pick.mp (show (p.1, p.2) ∈ pick K from hp)).2
  t := fun q hq => by
    rcases List.mem_cons.mp hq with rfl | hq
    · exact ⟨_, tabOk_is F.t5 (by decide) KX⟩
    rcases List.mem_cons.mp hq with rfl | hq
    · exact ⟨_, tabOk_is F.t11 (by decide) KX⟩
    rw [List.mem_singleton.mp hq]
    exact ⟨_, tabOk_is F.t12 (by decide) KX⟩
theorem tab_of {P : Addr} (F : Facts K) (hP : P ∈ tabs) : ∃ c, tabOk K c P = true ∧ c ≠ P := by
  rcases List.mem_cons.mp hP with rfl | hP
  · exact ⟨25, F.t5, by decide⟩
  rcases List.mem_cons.mp hP with rfl | hP
  · exact ⟨58, F.t11, by decide⟩
  rw [List.mem_singleton.mp hP]
  exact ⟨65, F.t12, by decide⟩
theorem old_of (F : Facts K) {s s' : Shared} (KX : K.In s.heap) (st : Step (mkW K mg mb) s s') : OldK s.heap s'.heap := by
  refine ⟨fun b o e => ?_, fun b o e => ?_⟩
  · by_cases hb : b ∈ tabs
    · obtain ⟨c, hc, hne⟩ := tab_of F hb
      obtain ⟨_, ht⟩ := tabOk_is hc hne KX
      obtain ⟨q, hq, eq⟩ : ∃ q ∈ (mkW K mg mb).C, q.2 = b := List.mem_map.mp (show b ∈ (mkW K mg mb).T from hb)
      obtain ⟨ps, _, h2⟩ := st.wd.t q hq
      have eo := ht.2
      rw [e] at eo
      cases eo
      rw [eq] at h2
      exact .inr (.inl ⟨ht.isCodeTable, rfl, #[], ps, rfl, by rw [Array.empty_append]; exact h2.2⟩)
    · exact .inl (st.kp b o hb e)
  · by_cases hb : b ∈ tabs
    · exact st.wd.live (show b ∈ (mkW K mg mb).T from hb)
    · exact ⟨o, st.kp b o hb e⟩
end

theorem ints_rd {X : List Addr} {h : Heap} : ∀ {vs : List Value} {ns : List Int}, IntsAre vs ns → RdAll X h vs (intD ns)
  | _, _, .nil => .nil
  | _, _, .cons _ _ r => .cons (.int ..) (ints_rd r)
theorem aok_caller : AOK 13 callerA := ⟨rfl, by decide, by decide⟩

/-- the whole of it -/
theorem fin {prog : Program} {K : Frag} {w : World} {s₁ : Shared} {mg mb : Str → Option Value} {ns : List Int} {vs : List Value} {c : ClaimW} {cl : Str → Option Addr} {mean : ExcName → Option Value} {args : List WData}
    (F : Facts K) (KX : K.In s₁.heap) (Gm : s₁.heap.Ns mainGlobals mg) (Gb : s₁.heap.Ns builtinsNs mb) (nl : s₁.heap.NoLimit) (nd : ∃ mc, s₁.heap.Ns cStatics mc ∧ mc "sys.int_max_str_digits" = none)
    (bb : ∀ x : Str, x ≠ "__name__" → mb x = bootBuiltins x)
    (hbm : ∃ bm ob, mg "__builtins__" = some (.ref bm) ∧ bm ≠ builtinsNs ∧ s₁.heap.get? bm = some ob ∧ ob.cls = .type "module" ∧ ob.dict = some builtinsNs ∧ ob.data = .plain)
    (hg : s₁.gens = #[]) (ho : s₁.heap.get? 170 = some { cls := .type "list", data := .seq vs.toArray }) (hi : IntsAre vs ns) (hb : ns.length ≤ 2 ^ 20)
    (hr : ∀ cls, c.raises args cls = false) (hp : c.post args (.bool true) args = true) {E : Value → Shared → Prop} :
    wpAny (model prog w) callerA (call (.ref 169) [.ref 170] []) (fun v s' => GoodWG c cl mean args s₁ (.ok (.ret v)) s') E s₁ := by
  obtain ⟨fd, e⟩ := Option.isSome_iff_exists.mp F.f34.is
  obtain ⟨ob, e1, e2⟩ := fnData_is e
  let g : G := { prog, w, W := mkW K mg mb, ok := mkW_ok e1 }
  have T : Tops g := tops_of F rfl KX Gm bb hbm
  have hw : Wd g.W s₁.heap := wd_of F KX Gm Gb nl nd
  obtain ⟨b, ob', fd', h1, h2, h3, h4⟩ := law_true T (sc := ns) hb
  have hl : mg "law" = some (.ref 169) := mg_of KX Gm F.f34.mg
  have hb' : b = 169 := by
    have h1' : mg "law" = some (.ref b) := h1
    rw [hl] at h1'
    cases h1'; rfl
  subst hb'
  have hx : XOK g.W g.W.T s₁.heap := ⟨fun a ha => ha, fun a ha => hw.live ha, fun a ha => .inl ha⟩
  have hd : RdAll g.W.T s₁.heap [.ref 170] [.list (intD ns)] := .cons (.list (vs := vs) (n := 0) (show (170 : Addr) ∉ tabs by decide) ho (ints_rd hi)) .nil
  refine wpAny_mono (h4 g.W.T callerA s₁ [.ref 170] aok_caller hw hx hd) (fun v s' ⟨st, r⟩ => ?_) fun _ _ x => x.elim
  rw [r.bool_inv]
  exact ⟨.inl ⟨_, .bool true, [], rfl, hr, .bool true, hp, fun _ => ⟨.nil, fun _ ha => nomatch ha⟩⟩, old_of F KX st, congrArg Prod.fst st.os, st.gk.bare (.of_eq hg)⟩
end Mine
open PySem PySem.W PySem.W.X PySem.W.ZRun PyProof.Rows
set_option Elab.async false
set_option tactic.hygienic true
namespace Mine
/-- the k-th statement of the text -/
def stAt (k : Nat) : Stmt := match PySem.Challenge.pw_sx_vasmalltoolchain_7.main.body[k]? with | some s => s | none => .Pass ⟨0, 0, 0, 0⟩
def c0 : Stmt := stAt 0
def c1 : Stmt := stAt 1
def c2 : Stmt := stAt 2
def c3 : Stmt := stAt 3
def c4 : Stmt := stAt 4
def c5 : Stmt := stAt 5
def c6 : Stmt := stAt 6
def c7 : Stmt := stAt 7
def c8 : Stmt := stAt 8
def c9 : Stmt := stAt 9
def c10 : Stmt := stAt 10
def c11 : Stmt := stAt 11
def c12 : Stmt := stAt 12
def c13 : Stmt := stAt 13
def c14 : Stmt := stAt 14
def c15 : Stmt := stAt 15
def c16 : Stmt := stAt 16
def c17 : Stmt := stAt 17
def c18 : Stmt := stAt 18
def c19 : Stmt := stAt 19
def c20 : Stmt := stAt 20
def c21 : Stmt := stAt 21
def c22 : Stmt := stAt 22
def c23 : Stmt := stAt 23
def c24 : Stmt := stAt 24
def c25 : Stmt := stAt 25
def c26 : Stmt := stAt 26
def c27 : Stmt := stAt 27
def c28 : Stmt := stAt 28
def c29 : Stmt := stAt 29
def c30 : Stmt := stAt 30
def c31 : Stmt := stAt 31
def c32 : Stmt := stAt 32
def c33 : Stmt := stAt 33
def c34 : Stmt := stAt 34
/-- the same text, its statements named -/
def pq : Program := { PySem.Challenge.pw_sx_vasmalltoolchain_7 with main := { PySem.Challenge.pw_sx_vasmalltoolchain_7.main with body := [c0, c1, c2, c3, c4, c5, c6, c7, c8, c9, c10, c11, c12, c13, c14, c15, c16, c17, c18, c19, c20, c21, c22, c23, c24, c25, c26, c27, c28, c29, c30, c31, c32, c33, c34] } }
def row2 : PySem.W.OpenLaw := { prog := pq, name := (PySem.Str.ofString "law"), about := [(PySem.Str.ofString "render")], foot := 20, most := some 63, bound := none, writes := false }
theorem row_eq : PySem.Challenge.rw_sx_vasmalltoolchain_7 = row2 := by kernel_rfl
/- the text in raw form (no string is left to read); the head finds it by its name -/
set_option maxRecDepth 100000
set_option maxHeartbeats 0
noncomputable def s0 : Stmt := by refine (?f : (s : Stmt) → stAt 0 = s → Stmt) ?s ?h; exact fun s _ => s; case h => (conv => { lhs; reduce })
noncomputable def s1 : Stmt := by refine (?f : (s : Stmt) → stAt 1 = s → Stmt) ?s ?h; exact fun s _ => s; case h => (conv => { lhs; reduce })
noncomputable def s2 : Stmt := by refine (?f : (s : Stmt) → stAt 2 = s → Stmt) ?s ?h; exact fun s _ => s; case h => (conv => { lhs; reduce })
noncomputable def s3 : Stmt := by refine (?f : (s : Stmt) → stAt 3 = s → Stmt) ?s ?h; exact fun s _ => s; case h => (conv => { lhs; reduce })
noncomputable def s4 : Stmt := by refine (?f : (s : Stmt) → stAt 4 = s → Stmt) ?s ?h; exact fun s _ => s; case h => (conv => { lhs; reduce })
noncomputable def s5 : Stmt := by refine (?f : (s : Stmt) → stAt 5 = s → Stmt) ?s ?h; exact fun s _ => s; case h => (conv => { lhs; reduce })
noncomputable def s6 : Stmt := by refine (?f : (s : Stmt) → stAt 6 = s → Stmt) ?s ?h; exact fun s _ => s; case h => (conv => { lhs; reduce })
noncomputable def s7 : Stmt := by refine (?f : (s : Stmt) → stAt 7 = s → Stmt) ?s ?h; exact fun s _ => s; case h => (conv => { lhs; reduce })
noncomputable def s8 : Stmt := by refine (?f : (s : Stmt) → stAt 8 = s → Stmt) ?s ?h; exact fun s _ => s; case h => (conv => { lhs; reduce })
noncomputable def s9 : Stmt := by refine (?f : (s : Stmt) → stAt 9 = s → Stmt) ?s ?h; exact fun s _ => s; case h => (conv => { lhs; reduce })
noncomputable def s10 : Stmt := by refine (?f : (s : Stmt) → stAt 10 = s → Stmt) ?s ?h; exact fun s _ => s; case h => (conv => { lhs; reduce })
noncomputable def s11 : Stmt := by refine (?f : (s : Stmt) → stAt 11 = s → Stmt) ?s ?h; exact fun s _ => s; case h => (conv => { lhs; reduce })
noncomputable def s12 : Stmt := by refine (?f : (s : Stmt) → stAt 12 = s → Stmt) ?s ?h; exact fun s _ => s; case h => (conv => { lhs; reduce })
noncomputable def s13 : Stmt := by refine (?f : (s : Stmt) → stAt 13 = s → Stmt) ?s ?h; exact fun s _ => s; case h => (conv => { lhs; reduce })
noncomputable def s14 : Stmt := by refine (?f : (s : Stmt) → stAt 14 = s → Stmt) ?s ?h; exact fun s _ => s; case h => (conv => { lhs; reduce })
noncomputable def s15 : Stmt := by refine (?f : (s : Stmt) → stAt 15 = s → Stmt) ?s ?h; exact fun s _ => s; case h => (conv => { lhs; reduce })
noncomputable def s16 : Stmt := by refine (?f : (s : Stmt) → stAt 16 = s → Stmt) ?s ?h; exact fun s _ => s; case h => (conv => { lhs; reduce })
noncomputable def s17 : Stmt := by refine (?f : (s : Stmt) → stAt 17 = s → Stmt) ?s ?h; exact fun s _ => s; case h => (conv => { lhs; reduce })
noncomputable def s18 : Stmt := by refine (?f : (s : Stmt) → stAt 18 = s → Stmt) ?s ?h; exact fun s _ => s; case h => (conv => { lhs; reduce })
noncomputable def s19 : Stmt := by refine (?f : (s : Stmt) → stAt 19 = s → Stmt) ?s ?h; exact fun s _ => s; case h => (conv => { lhs; reduce })
noncomputable def s20 : Stmt := by refine (?f : (s : Stmt) → stAt 20 = s → Stmt) ?s ?h; exact fun s _ => s; case h => (conv => { lhs; reduce })
noncomputable def s21 : Stmt := by refine (?f : (s : Stmt) → stAt 21 = s → Stmt) ?s ?h; exact fun s _ => s; case h => (conv => { lhs; reduce })
noncomputable def s22 : Stmt := by refine (?f : (s : Stmt) → stAt 22 = s → Stmt) ?s ?h; exact fun s _ => s; case h => (conv => { lhs; reduce })
noncomputable def s23 : Stmt := by refine (?f : (s : Stmt) → stAt 23 = s → Stmt) ?s ?h; exact fun s _ => s; case h => (conv => { lhs; reduce })
noncomputable def s24 : Stmt := by refine (?f : (s : Stmt) → stAt 24 = s → Stmt) ?s ?h; exact fun s _ => s; case h => (conv => { lhs; reduce })
noncomputable def s25 : Stmt := by refine (?f : (s : Stmt) → stAt 25 = s → Stmt) ?s ?h; exact fun s _ => s; case h => (conv => { lhs; reduce })
noncomputable def s26 : Stmt := by refine (?f : (s : Stmt) → stAt 26 = s → Stmt) ?s ?h; exact fun s _ => s; case h => (conv => { lhs; reduce })
noncomputable def s27 : Stmt := by refine (?f : (s : Stmt) → stAt 27 = s → Stmt) ?s ?h; exact fun s _ => s; case h => (conv => { lhs; reduce })
noncomputable def s28 : Stmt := by refine (?f : (s : Stmt) → stAt 28 = s → Stmt) ?s ?h; exact fun s _ => s; case h => (conv => { lhs; reduce })
noncomputable def s29 : Stmt := by refine (?f : (s : Stmt) → stAt 29 = s → Stmt) ?s ?h; exact fun s _ => s; case h => (conv => { lhs; reduce })
noncomputable def s30 : Stmt := by refine (?f : (s : Stmt) → stAt 30 = s → Stmt) ?s ?h; exact fun s _ => s; case h => (conv => { lhs; reduce })
noncomputable def s31 : Stmt := by refine (?f : (s : Stmt) → stAt 31 = s → Stmt) ?s ?h; exact fun s _ => s; case h => (conv => { lhs; reduce })
noncomputable def s32 : Stmt := by refine (?f : (s : Stmt) → stAt 32 = s → Stmt) ?s ?h; exact fun s _ => s; case h => (conv => { lhs; reduce })
noncomputable def s33 : Stmt := by refine (?f : (s : Stmt) → stAt 33 = s → Stmt) ?s ?h; exact fun s _ => s; case h => (conv => { lhs; reduce })
noncomputable def s34 : Stmt := by refine (?f : (s : Stmt) → stAt 34 = s → Stmt) ?s ?h; exact fun s _ => s; case h => (conv => { lhs; reduce })
noncomputable def raw (l : List Stmt) : Program := by refine (?f : (p : Program) → ({ PySem.Challenge.pw_sx_vasmalltoolchain_7 with main := { PySem.Challenge.pw_sx_vasmalltoolchain_7.main with body := l } } : Program) = p → Program) ?p ?h; exact fun p _ => p; case h => (conv => { lhs; reduce })
noncomputable def head.tw12477098757608321007 : Program := raw [s0, s1, s2, s3, s4, s5, s6, s7, s8, s9, s10, s11, s12, s13, s14, s15, s16, s17, s18, s19, s20, s21, s22, s23, s24, s25, s26, s27, s28, s29, s30, s31, s32, s33, s34]
theorem head.te12477098757608321007 : PySem.Challenge.pw_sx_vasmalltoolchain_7 = head.tw12477098757608321007 := by kernel_rfl
noncomputable def head.tw17779776721724178621 : Program := head.tw12477098757608321007
theorem head.te17779776721724178621 : pq = head.tw17779776721724178621 := by kernel_rfl
set_option Elab.async true in
theorem head : row2.Holds := by
  w_on; o_law; z_head; (case hw => w_witness2)
  k_fill
  intro w s₀ s₁ mg mb G y fa o pm cd doc dV kV ho hd hcd hD hmg hg args vals as L hpre hlay hrd hwl hlo
  z_open y L KX ZH ZN ZT
  refine Ground.open G ?_
  intro T B D TE TW
  wrow_args hpre hlay hrd hwl hlo
  obtain ⟨hat, hsz⟩ := script_at L
  have htk := script_toks L ZT
  rw [ZN] at hat hsz
  subst hat
  x_fa T KX hmg
  all_lens
  refine Mine.fin ?hfacts KX T.g T.b T.nolimit T.nodigits T.builtins T.bmain hg (script_obj L (by assumption)) (by assumption) (And.right (by assumption)) ?hraises ?hpost
  case hfacts => constructor <;> first | kernel_rfl | (constructor <;> kernel_rfl)
  case hraises => intro cls; rfl
  case hpost => kernel_rfl
end Mine
theorem PySem.Challenge.cw_sx_vasmalltoolchain_7_holds : PySem.Challenge.rw_sx_vasmalltoolchain_7.Holds := by
  rw [Mine.row_eq]
  exact Mine.head
