import PyProof.Rows.All
import PyProof.Rows.Top
import PyProof.EqLayable
import PyProof.CompFree
import PyProof.Cells
import PyProof.ForAny
import PyProof.StationsW
import PyProof.Rows.Nodes
import PyProof.Rows.Chain
import PyProof.Rows.Method
import PyProof.Rows.TupSub
import PyProof.Rows.StrTemp
import PyProof.Rows.Exc
import PyProof.Rules3
import PyProof.ListTruth
import PyProof.Truth
import PyProof.Rows.RuleU_int
import PyProof.Rows.TupMore
import PyProof.SliceSyntax
import PyProof.SliceList
import PyProof.SliceStr2
import PyProof.Rows.IntRules
import PyProof.Rows.RuleC_int
import PyProof.Rows.RuleB_mul
import PyProof.Rows.RuleB_mod
import PyProof.Rows.RuleB_floordiv
import PyProof.Rows.RuleB_pow
import PyProof.Rows.RotEnd
import PyProof.Rows.ListMulArg
import PyProof.Rows.RuleIs
import PyProof.Rows.RuleIs2
import PyProof.Rows.StrRules
import PyProof.Rows.IntBool
import PyProof.StrBlock
import PyProof.NoPylong
import PyProof.NeData
import PyProof.DictKinds
import PyProof.StrBlock2
import PyProof.FitsBits
import PyProof.SliceMore
import PyProof.StrLawsIn
import PyProof.StrLawsIdx
import PyProof.Rows.Lst
import PyProof.Rows.Tup
import PyProof.RangeFor
import PyProof.Rows.Range3
import PyProof.WalksMore
import PyProof.StrWalks
import PyProof.SumAny
import PyProof.WalkInts
import PyProof.MinMaxWalk
import PyProof.TableTree
import PyProof.CompUse
import PyProof.Raises
import PyProof.Rules2
import PyProof.Methods
import PyProof.ListIndex
import PyProof.Dict
import PyProof.StrCalls2
import PyProof.StrCalls3
import PyProof.StrCalls5
import PyProof.StrCalls6
import PyProof.StrLawsReplace
import PyProof.StrLawsTight
import PyProof.Rows.StrNews
import PyProof.IsiPairs
import PyProof.IsiHeapPairs
import KE.KIsAll
import PyProof.ExcAttrAll.ValueError
import PyProof.ExcBaseAll.ValueError
import KE.KTryMore
import PyProof.NsDelKeeps
import PyProof.RulesAs
import PyProof.RulesTry
import PyProof.ConsumeWalk
import PyProof.Conv_int_bool
import PyProof.Rows.ListCopyD
import Open.Line
import OpenK.KWalk
import PyProof.FactsAll.list_2
import PyProof.FactsAll.list_3
import PyProof.AutoSeq1
import Wide.All
import OpenK.AllK
import Wide.FinOn
import PySem.Challenge.RW_uf040006_13
set_option Elab.async false
namespace Mine
open PySem PySem.Calls PyProof.Rows PySem.SeqAt PySem.W
set_option maxRecDepth 100000
set_option maxHeartbeats 8000000
/-- what a class of exceptions must show in the written part -/
noncomputable def excIn (K : Frag) (D : Addr) : Bool :=
  (clsIn K D).isSome && findIn K (.ref D) "__getattribute__" == some (some (.builtin "BaseException.__getattribute__")) && findIn K (.ref D) "__getattr__" == some none &&
  findIn K (.ref D) "__class__" == some (some (.builtin "object.__class__")) && specialIn K (.builtin "object.__class__") "__get__" == some (some (.builtin "getset_descriptor.__get__")) && takesIn K (.builtin "object.__class__") == some true &&
  mroIn K D (.type "object") == some true && subIn K (.ref D) (.type "BaseException") == some true

noncomputable def excNames : List Str := ["WrapError", "NoWidth", "LongWord", "NoStarts", "TooWide", "TooFew", "TooMany", "NoPlace", "NoWord", "Full", "NoWayBack"]
noncomputable def subX (k T : Str) : Bool := k == T || T == ("WrapError" : Str)
noncomputable def bmV : List Value := [.type "ValueError", .type "Exception", .type "BaseException", .type "object"]
noncomputable def excChk (p : Program) (K : Frag) : Bool := excNames.all fun k => match nsIn K mainGlobals k with
  | some (some (.ref C)) => excIn K C && specOf p k == some ("ValueError.__new__", bmV) && kitCls K (.ref C) (.type "ValueError") == some true &&
    excNames.all fun k' => match nsIn K mainGlobals k' with
      | some (some (.ref C')) => exmOne K (.ref C) (.ref C') == some (subX k k') && (C != C' || subX k k')
      | _ => false
  | _ => false
noncomputable def viewAt (p : Program) (ks : List Nat) : Program := { p with main := { p.main with body := ks.filterMap fun i => p.main.body[i]? } }
noncomputable def fragH (h : Heap) : Frag := (List.range h.objs.size).filterMap fun a => (h.get? a).map fun o => (a, o)
theorem fragL_in (h : Heap) : ∀ (l : List Nat) (a : Addr) (o : Obj), (l.filterMap fun a => (h.get? a).map fun o => (a, o)).lookup a = some o → h.get? a = some o
  | [], _, _, e => by simp at e
  | b :: l, a, o, e => by
    rw [List.filterMap_cons] at e
    cases hb : h.get? b with
    | none => rw [hb] at e; exact fragL_in h l a o e
    | some ob =>
      rw [hb] at e
      simp only [Option.map_some, List.lookup_cons] at e
      split at e
      · rename_i q
        obtain rfl := Option.some.inj e
        rw [eq_of_beq q]; exact hb
      · exact fragL_in h l a o e
theorem fragH_in (h : Heap) : (fragH h).In h := fun a o e => fragL_in h _ a o e
noncomputable def xHook (p : Program) : Hook := ⟨Bool, fun s => excChk p (fragH s.heap), fun _ => true, fun _ h => ∃ K : Frag, K.In h ∧ excChk p K = true, fun _ s e => ⟨_, fragH_in s.heap, e⟩, fun _ _ _ ⟨K, h1, h2⟩ k => ⟨K, fun a o e => k a o (h1 a o e), h2⟩⟩
noncomputable def q_13 : Program := viewAt PySem.Challenge.pw_uf040006_13 [1, 2, 3, 4, 5, 6, 7, 8, 9, 10, 11, 13, 14, 15, 17, 18, 19, 20, 21, 23, 24, 25, 27, 28, 30, 31, 32, 34, 35, 36, 37, 38, 39, 40, 41, 42, 43, 44, 45, 46, 47]
theorem left_13 : LeftO PySem.Challenge.rw_uf040006_13.row.prog q_13 [] (fun s => xlAt q_13 [] s && recOk (RowW.records (OpenRow.toRowW PySem.Challenge.rw_uf040006_13.row)) s) (Hook.obs (xHook q_13)) (Hook.val (xHook q_13)) 9000 := by
  intro w
  kernel_rfl
end Mine
namespace Mine
open PySem

theorem nos {α : Type} {p : Prop} {x : α} (h : none = some x) : p := (Option.some_ne_none _ h.symm).elim
theorem son {α : Type} {p : Prop} {x : α} (h : some x = none) : p := (Option.some_ne_none _ h).elim
/-- plain data -/
inductive D where
  | none
  | bool (b : Bool)
  | int (i : Int)
  | str (s : List Nat)
  | list (xs : List D)
  | tup (xs : List D)
  | exc (k : Str)

mutual
noncomputable def D.py : D → PyData
  | .none => .none
  | .bool b => .bool b
  | .int i => .int i
  | .str s => .str ⟨s.toArray⟩
  | .list xs => .list (D.pys xs)
  | .tup xs => .tuple (D.pys xs)
  | .exc _ => .none
noncomputable def D.pys : List D → List PyData
  | [] => []
  | x :: xs => D.py x :: D.pys xs
end

-- no list inside
mutual
noncomputable def D.flat : D → Bool
  | .list _ => false
  | .tup xs => D.flats xs
  | _ => true
noncomputable def D.flats : List D → Bool
  | [] => true
  | x :: xs => D.flat x && D.flats xs
end

-- no exception inside
mutual
noncomputable def D.plain : D → Bool
  | .exc _ => false
  | .list xs => D.plains xs
  | .tup xs => D.plains xs
  | _ => true
noncomputable def D.plains : List D → Bool
  | [] => true
  | x :: xs => D.plain x && D.plains xs
end

noncomputable def NotDict (o : Obj) : Prop := ∀ es n, o.data ≠ .dict es n

mutual
inductive Rp (X : Str → Option Value) (h : Heap) : Value → D → List Addr → Prop
  | none : Rp X h .none .none []
  | bool (b) : Rp X h (.bool b) (.bool b) []
  | int (i t) : Rp X h (.int i t) (.int i) []
  | str (s t) : Rp X h (.str ⟨List.toArray s⟩ t) (.str s) []
  | list {a o vs n xs fp} : h.get? a = some o → o.cls = .type "list" → o.data = .seq vs n → Rps X h vs.toList xs fp → Rp X h (.ref a) (.list xs) (a :: fp)
  | tup {a o vs n xs fp} : h.get? a = some o → o.cls = .type "tuple" → o.data = .seq vs n → Rps X h vs.toList xs fp → Rp X h (.ref a) (.tup xs) fp
  | exc {a C o vs k} : X k = some (.ref C) → h.get? a = some o → o.cls = .ref C → o.data = .fields vs ∧ o.dict = none → Rp X h (.ref a) (.exc k) []
inductive Rps (X : Str → Option Value) (h : Heap) : List Value → List D → List Addr → Prop
  | nil : Rps X h [] [] []
  | cons {v vs d ds f g} : Rp X h v d f → Rps X h vs ds g → Rps X h (v :: vs) (d :: ds) (f ++ g)
end

variable {X : Str → Option Value}
theorem notDict_of_fields {o : Obj} {vs} (h : o.data = .fields vs) : NotDict o := fun es m e => by rw [h] at e; cases e
theorem notDict_of_seq {o : Obj} {vs n} (h : o.data = .seq vs n) : NotDict o := fun es m e => by rw [h] at e; cases e

/-- both by one recursion -/
theorem Rp.both {h : Heap} {P : Value → D → List Addr → Prop} {Ps : List Value → List D → List Addr → Prop}
    (h0 : P .none .none []) (h1 : ∀ b, P (.bool b) (.bool b) []) (h2 : ∀ i t, P (.int i t) (.int i) []) (h3 : ∀ s t, P (.str ⟨List.toArray s⟩ t) (.str s) [])
    (h4 : ∀ {a o vs n xs fp}, h.get? a = some o → o.cls = .type "list" → o.data = .seq vs n → Ps vs.toList xs fp → P (.ref a) (.list xs) (a :: fp))
    (h5 : ∀ {a o vs n xs fp}, h.get? a = some o → o.cls = .type "tuple" → o.data = .seq vs n → Ps vs.toList xs fp → P (.ref a) (.tup xs) fp)
    (h6 : ∀ {a C o vs k}, X k = some (.ref C) → h.get? a = some o → o.cls = .ref C → o.data = .fields vs ∧ o.dict = Option.none → P (.ref a) (.exc k) [])
    (h7 : Ps [] [] []) (h8 : ∀ {v vs d ds f g}, P v d f → Ps vs ds g → Ps (v :: vs) (d :: ds) (f ++ g)) :
    (∀ {v d fp}, Rp X h v d fp → P v d fp) ∧ (∀ {vs ds fp}, Rps X h vs ds fp → Ps vs ds fp) :=
  ⟨fun r => Rp.rec (motive_1 := fun v d f _ => P v d f) (motive_2 := fun v d f _ => Ps v d f) h0 h1 h2 h3 (fun a b c _ i => h4 a b c i) (fun a b c _ i => h5 a b c i) (fun a b c d => h6 a b c d) h7 (fun _ _ i j => h8 i j) r,
   fun r => Rps.rec (motive_1 := fun v d f _ => P v d f) (motive_2 := fun v d f _ => Ps v d f) h0 h1 h2 h3 (fun a b c _ i => h4 a b c i) (fun a b c _ i => h5 a b c i) (fun a b c d => h6 a b c d) h7 (fun _ _ i j => h8 i j) r⟩
theorem Rps.ind {h : Heap} {Ps : List Value → List D → List Addr → Prop} (h7 : Ps [] [] []) (h8 : ∀ {v vs d ds f g}, Rp X h v d f → Rps X h vs ds g → Ps vs ds g → Ps (v :: vs) (d :: ds) (f ++ g)) :
    ∀ {vs ds fp}, Rps X h vs ds fp → Ps vs ds fp :=
  fun r => Rps.rec (motive_1 := fun _ _ _ _ => True) (motive_2 := fun v d f _ => Ps v d f) trivial (fun _ => trivial) (fun _ _ => trivial) (fun _ _ => trivial) (fun _ _ _ _ _ => trivial) (fun _ _ _ _ _ => trivial) (fun _ _ _ _ => trivial) h7 (fun r rs _ j => h8 r rs j) r

-- what stands for a value of a known kind
inductive RpL (X : Str → Option Value) (h : Heap) (xs : List D) : Value → List Addr → Prop
  | mk {a o vs n fp} (h1 : h.get? a = some o) (h2 : o.cls = .type "list") (h3 : o.data = .seq vs n) (h4 : Rps X h vs.toList xs fp) : RpL X h xs (.ref a) (a :: fp)
inductive RpT (X : Str → Option Value) (h : Heap) (xs : List D) : Value → List Addr → Prop
  | mk {a o vs n fp} (h1 : h.get? a = some o) (h2 : o.cls = .type "tuple") (h3 : o.data = .seq vs n) (h4 : Rps X h vs.toList xs fp) : RpT X h xs (.ref a) fp
inductive RpX (X : Str → Option Value) (h : Heap) (k : Str) : Value → List Addr → Prop
  | mk {a C o vs} (h0 : X k = some (.ref C)) (h1 : h.get? a = some o) (h2 : o.cls = .ref C) (h3 : o.data = .fields vs) (h4 : o.dict = none) : RpX X h k (.ref a) []
noncomputable def RpI (X : Str → Option Value) (h : Heap) (v : Value) (d : D) (fp : List Addr) : Prop :=
  D.casesOn (motive_1 := fun _ => Prop) d (v = .none ∧ fp = []) (fun b => v = .bool b ∧ fp = []) (fun i => ∃ t, v = .int i t ∧ fp = []) (fun s => ∃ t, v = .str ⟨List.toArray s⟩ t ∧ fp = [])
    (fun xs => RpL X h xs v fp) (fun xs => RpT X h xs v fp) (fun k => RpX X h k v fp)
theorem Rp.inv {h : Heap} {v : Value} {d : D} {fp : List Addr} (r : Rp X h v d fp) : RpI X h v d fp :=
  Rp.casesOn (motive_1 := fun v d fp _ => RpI X h v d fp) r ⟨rfl, rfl⟩ (fun _ => ⟨rfl, rfl⟩) (fun _ t => ⟨t, rfl, rfl⟩) (fun _ t => ⟨t, rfl, rfl⟩) (fun a b c d => .mk a b c d) (fun a b c d => .mk a b c d) (fun a b c d => .mk a b c d.1 d.2)
inductive RpsC (X : Str → Option Value) (h : Heap) (d : D) (ds : List D) : List Value → List Addr → Prop
  | mk {v vs f g} (h1 : Rp X h v d f) (h2 : Rps X h vs ds g) : RpsC X h d ds (v :: vs) (f ++ g)
noncomputable def RpsI (X : Str → Option Value) (h : Heap) (vs : List Value) (ds : List D) (fp : List Addr) : Prop :=
  List.casesOn (motive := fun _ => Prop) ds (vs = [] ∧ fp = []) (fun d ds => RpsC X h d ds vs fp)
theorem Rps.inv {h : Heap} {vs : List Value} {ds : List D} {fp : List Addr} (r : Rps X h vs ds fp) : RpsI X h vs ds fp :=
  Rps.casesOn (motive_2 := fun vs ds fp _ => RpsI X h vs ds fp) r ⟨rfl, rfl⟩ (fun a b => .mk a b)
theorem Rps.invC {h : Heap} {vs : List Value} {d : D} {ds : List D} {fp : List Addr} (r : Rps X h vs (d :: ds) fp) : RpsC X h d ds vs fp := r.inv

-- only the list and tuple objects matter
theorem rp_keepN {h h' : Heap} {W : Addr → Prop} (k : ∀ b o, ¬ W b → h.get? b = some o → NotDict o → h'.get? b = some o)
    (kt : ∀ b o vs n, W b → h.get? b = some o → o.cls = .type "tuple" → o.data ≠ .seq vs n) (kf : ∀ b o vs C, W b → h.get? b = some o → o.cls = .ref C → o.data ≠ .fields vs) :
    (∀ {v d fp}, Rp X h v d fp → (∀ a ∈ fp, ¬ W a) → Rp X h' v d fp) ∧ (∀ {vs ds fp}, Rps X h vs ds fp → (∀ a ∈ fp, ¬ W a) → Rps X h' vs ds fp) :=
  Rp.both (P := fun v d fp => (∀ a ∈ fp, ¬ W a) → Rp X h' v d fp) (Ps := fun v d fp => (∀ a ∈ fp, ¬ W a) → Rps X h' v d fp)
    (fun _ => .none) (fun b _ => .bool b) (fun i t _ => .int i t) (fun s t _ => .str s t)
    (fun h1 h2 h3 r hw => .list (k _ _ (hw _ (List.mem_cons_self ..)) h1 (notDict_of_seq h3)) h2 h3 (r fun a ha => hw a (List.mem_cons_of_mem _ ha)))
    (fun h1 h2 h3 r hw => .tup (k _ _ (fun w => kt _ _ _ _ w h1 h2 h3) h1 (notDict_of_seq h3)) h2 h3 (r hw))
    (fun h0 h1 h2 h3 _ => .exc h0 (k _ _ (fun w => kf _ _ _ _ w h1 h2 h3.1) h1 (notDict_of_fields h3.1)) h2 h3)
    (fun _ => .nil) (fun r rs hw => .cons (r fun a ha => hw a (List.mem_append_left _ ha)) (rs fun a ha => hw a (List.mem_append_right _ ha)))
theorem Rp.keepOn {h h' : Heap} {W : Addr → Prop} (k : ∀ b o, ¬ W b → h.get? b = some o → NotDict o → h'.get? b = some o) (kt : ∀ b o, W b → h.get? b = some o → ∃ T, o.cls = .type T ∧ T ≠ "tuple") {v d fp} (r : Rp X h v d fp) (hw : ∀ a ∈ fp, ¬ W a) : Rp X h' v d fp :=
  (rp_keepN k (fun b o _ _ w e hc _ => by obtain ⟨T, q, hT⟩ := kt b o w e; rw [hc] at q; injection q with q; exact hT q.symm) (fun b o _ _ w e hc _ => by obtain ⟨T, q, _⟩ := kt b o w e; rw [hc] at q; cases q)).1 r hw
theorem Rps.keepOn {h h' : Heap} {W : Addr → Prop} (k : ∀ b o, ¬ W b → h.get? b = some o → NotDict o → h'.get? b = some o) (kt : ∀ b o, W b → h.get? b = some o → ∃ T, o.cls = .type T ∧ T ≠ "tuple") {v d fp} (r : Rps X h v d fp) (hw : ∀ a ∈ fp, ¬ W a) : Rps X h' v d fp :=
  (rp_keepN k (fun b o _ _ w e hc _ => by obtain ⟨T, q, hT⟩ := kt b o w e; rw [hc] at q; injection q with q; exact hT q.symm) (fun b o _ _ w e hc _ => by obtain ⟨T, q, _⟩ := kt b o w e; rw [hc] at q; cases q)).2 r hw
theorem Rp.keep {h h' : Heap} (k : ∀ b o, h.get? b = some o → NotDict o → h'.get? b = some o) {v d fp} (r : Rp X h v d fp) : Rp X h' v d fp :=
  r.keepOn (W := fun _ => False) (fun b o _ => k b o) (fun _ _ w => w.elim) fun _ _ w => w
theorem Rps.keep {h h' : Heap} (k : ∀ b o, h.get? b = some o → NotDict o → h'.get? b = some o) {v d fp} (r : Rps X h v d fp) : Rps X h' v d fp :=
  r.keepOn (W := fun _ => False) (fun b o _ => k b o) (fun _ _ w => w.elim) fun _ _ w => w

-- the footprint is of lists that stand
inductive FpL (h : Heap) (a : Addr) : Prop
  | mk (o : Obj) (vs : Array Value) (n : Nat) (h1 : h.get? a = some o) (h2 : o.cls = .type "list") (h3 : o.data = .seq vs n) : FpL h a
theorem rp_fp {h : Heap} : (∀ {v d fp}, Rp X h v d fp → ∀ a ∈ fp, FpL h a) ∧ (∀ {vs ds fp}, Rps X h vs ds fp → ∀ a ∈ fp, FpL h a) :=
  Rp.both (P := fun _ _ fp => ∀ a ∈ fp, FpL h a) (Ps := fun _ _ fp => ∀ a ∈ fp, FpL h a) (fun _ ha => nomatch ha) (fun _ _ ha => nomatch ha) (fun _ _ _ ha => nomatch ha) (fun _ _ _ ha => nomatch ha)
    (fun h1 h2 h3 r a ha => (List.mem_cons.mp ha).elim (fun e => e ▸ .mk _ _ _ h1 h2 h3) (r a)) (fun _ _ _ r => r) (fun _ _ _ _ _ ha => nomatch ha) (fun _ ha => nomatch ha) (fun r rs a ha => (List.mem_append.mp ha).elim (r a) (rs a))
theorem Rp.fp_list {h : Heap} {v d fp} (r : Rp X h v d fp) : ∀ a ∈ fp, FpL h a := rp_fp.1 r
theorem Rps.fp_list {h : Heap} {v d fp} (r : Rps X h v d fp) : ∀ a ∈ fp, FpL h a := rp_fp.2 r
theorem and_flat {a b : Bool} (h : (a && b) = true) : a = true ∧ b = true := by cases a <;> cases b <;> first | exact ⟨rfl, rfl⟩ | cases h
theorem rp_flat {h : Heap} : (∀ {v d fp}, Rp X h v d fp → d.flat = true → fp = []) ∧ (∀ {vs ds fp}, Rps X h vs ds fp → D.flats ds = true → fp = []) :=
  Rp.both (P := fun _ d fp => d.flat = true → fp = []) (Ps := fun _ ds fp => D.flats ds = true → fp = []) (fun _ => rfl) (fun _ _ => rfl) (fun _ _ _ => rfl) (fun _ _ _ => rfl)
    (fun _ _ _ _ hf => Bool.noConfusion hf) (fun _ _ _ r hf => r hf) (fun _ _ _ _ _ => rfl) (fun _ => rfl)
    (fun r rs hf => by have q := and_flat hf; rw [r q.1, rs q.2]; rfl)
theorem Rp.flat_fp {h : Heap} {v d fp} (r : Rp X h v d fp) : d.flat = true → fp = [] := rp_flat.1 r
theorem Rps.flat_fp {h : Heap} {v d fp} (r : Rps X h v d fp) : D.flats d = true → fp = [] := rp_flat.2 r
theorem Rps.length {h : Heap} {vs ds fp} (r : Rps X h vs ds fp) : vs.length = ds.length :=
  r.ind (Ps := fun vs ds _ => vs.length = ds.length) rfl (fun _ _ ih => congrArg (· + 1) ih)
theorem Rps.append {h : Heap} {vs ds f vs' ds' g} (r : Rps X h vs ds f) (r' : Rps X h vs' ds' g) : Rps X h (vs ++ vs') (ds ++ ds') (f ++ g) :=
  r.ind (Ps := fun vs ds f => Rps X h (vs ++ vs') (ds ++ ds') (f ++ g)) r' (fun r _ ih => by rw [List.append_assoc]; exact .cons r ih)
theorem Rps.get {h : Heap} {vs ds f} {i : Nat} {d : D} (r : Rps X h vs ds f) (hi : ds[i]? = some d) : ∃ v g, vs[i]? = some v ∧ Rp X h v d g ∧ ∀ a ∈ g, a ∈ f :=
  r.ind (Ps := fun vs ds f => ∀ i : Nat, ds[i]? = some d → ∃ v g, vs[i]? = some v ∧ Rp X h v d g ∧ ∀ a ∈ g, a ∈ f) (fun _ hi => nomatch hi)
    (fun r _ ih i => match i with
      | 0 => fun hi => ⟨_, _, rfl, Option.some.inj hi ▸ r, fun a ha => List.mem_append_left _ ha⟩
      | i + 1 => fun hi => let ⟨v, g, h1, h2, h3⟩ := ih i hi; ⟨v, g, h1, h2, fun a ha => List.mem_append_right _ (h3 a ha)⟩) i hi
theorem Rps.drop {h : Heap} {vs ds f} (i : Nat) (r : Rps X h vs ds f) : ∃ g, Rps X h (vs.drop i) (ds.drop i) g ∧ g.Sublist f :=
  r.ind (Ps := fun vs ds f => ∀ i : Nat, ∃ g, Rps X h (vs.drop i) (ds.drop i) g ∧ g.Sublist f) (fun i => ⟨[], by cases i <;> exact .nil, List.Sublist.refl _⟩)
    (fun r rs ih i => match i with
      | 0 => ⟨_, .cons r rs, List.Sublist.refl _⟩
      | i + 1 => let ⟨g, h1, h2⟩ := ih i; ⟨g, h1, h2.trans (List.sublist_append_right ..)⟩) i
theorem Rps.take {h : Heap} {vs ds f} (i : Nat) (r : Rps X h vs ds f) : ∃ g, Rps X h (vs.take i) (ds.take i) g ∧ g.Sublist f :=
  r.ind (Ps := fun vs ds f => ∀ i : Nat, ∃ g, Rps X h (vs.take i) (ds.take i) g ∧ g.Sublist f) (fun i => ⟨[], by cases i <;> exact .nil, List.Sublist.refl _⟩)
    (fun r rs ih i => match i with
      | 0 => ⟨[], .nil, List.nil_sublist _⟩
      | i + 1 => let ⟨g, h1, h2⟩ := ih i; ⟨_, .cons r h1, List.Sublist.append (List.Sublist.refl _) h2⟩) i

/-- what a pure step keeps, seen from a frame whose names lie at L -/
structure Kp (L : Addr) (h h' : Heap) : Prop where
  obj : ∀ b o, b ≠ L → h.get? b = some o → NotDict o → h'.get? b = some o
  dct : ∀ b o, b ≠ L → h.get? b = some o → ∃ sl, h'.get? b = some { o with slots := sl }
  ns : ∀ m, h.Ns L m → h'.Ns L m

theorem Kp.refl (L : Addr) (h : Heap) : Kp L h h := ⟨fun _ _ _ e _ => e, fun _ o _ e => ⟨o.slots, e⟩, fun _ e => e⟩
theorem Kp.trans {L : Addr} {h₁ h₂ h₃ : Heap} (x : Kp L h₁ h₂) (y : Kp L h₂ h₃) : Kp L h₁ h₃ where
  obj := fun b o hb e n => y.obj b o hb (x.obj b o hb e n) n
  dct := fun b o hb e => let ⟨_, e₁⟩ := x.dct b o hb e; let ⟨sl, e₂⟩ := y.dct b _ hb e₁; ⟨sl, e₂⟩
  ns := fun m e => y.ns m (x.ns m e)
theorem Kp.of_keeps {L : Addr} {h h' : Heap} (k : ∀ b o, h.get? b = some o → h'.get? b = some o) : Kp L h h' :=
  ⟨fun b o _ e _ => k b o e, fun b o _ e => ⟨o.slots, k b o e⟩, fun _ e => e.keeps k⟩
/-- the frame's own place is a namespace: what is none may stand anywhere -/
theorem ns_ne {h : Heap} {L a : Addr} {m : Str → Option Value} {o : Obj} (hn : h.Ns L m) (ho : h.get? a = some o) (n : NotDict o) : a ≠ L := by
  rintro rfl
  obtain ⟨o', es, ep, h1, h2, _⟩ := hn
  rw [ho] at h1; obtain rfl := Option.some.inj h1
  exact n _ _ h2
theorem Kp.keep {L : Addr} {h h' : Heap} {m : Str → Option Value} (k : Kp L h h') (hn : h.Ns L m) {b : Addr} {o : Obj} (e : h.get? b = some o) (n : NotDict o) : h'.get? b = some o :=
  k.obj b o (ns_ne hn e n) e n
theorem Kp.rp {L : Addr} {h h' : Heap} {m : Str → Option Value} (k : Kp L h h') (hn : h.Ns L m) {v d fp} (r : Rp X h v d fp) : Rp X h' v d fp := r.keep fun _ _ e n => k.keep hn e n
theorem Kp.rps {L : Addr} {h h' : Heap} {m : Str → Option Value} (k : Kp L h h') (hn : h.Ns L m) {v d fp} (r : Rps X h v d fp) : Rps X h' v d fp := r.keep fun _ _ e n => k.keep hn e n
end Mine
namespace Mine
open PySem PySem.Calls

structure Cx where
  prog : Program
  w : World
  base : Heap
  mg : Str → Option Value
  mb : Str → Option Value

structure Cx.Ok (c : Cx) : Prop where
  g : c.base.Ns mainGlobals c.mg
  b : c.base.Ns builtinsNs c.mb
  nl : c.base.NoLimit

-- what came of a call: a value, or an exception of an own class
inductive R (α : Type) where
  | ok (a : α)
  | exc (k : Str)

noncomputable def bindR {α β : Type} (x : Option (R α)) (f : α → Option (R β)) : Option (R β) :=
  match x with
  | some (.ok a) => f a
  | some (.exc k) => some (.exc k)
  | none => none
@[simp] theorem bindR_ok {α β : Type} (a : α) (f : α → Option (R β)) : bindR (some (.ok a)) f = f a := rfl
@[simp] theorem bindR_exc {α β : Type} (k : Str) (f : α → Option (R β)) : bindR (some (.exc k)) f = some (.exc k) := rfl
@[simp] theorem bindR_none {α β : Type} (f : α → Option (R β)) : bindR none f = none := rfl
theorem bindR_some {α β : Type} {x : Option (R α)} {f : α → Option (R β)} {r : R β} (h : bindR x f = some r) :
    (∃ a, x = some (.ok a) ∧ f a = some r) ∨ ∃ k, x = some (.exc k) ∧ r = .exc k := by
  unfold bindR at h
  split at h
  · exact .inl ⟨_, rfl, h⟩
  · exact .inr ⟨_, rfl, (Option.some.inj h).symm⟩
  · exact nos h

abbrev G := List (Option (D × Nat))

inductive FrE (c : Cx) (h : Heap) (env : Env) : Prop
  | mk (h1 : env.scope.kind ≠ .module) (L : Addr) (o : Obj) (es : Array DictEntry) (n : Nat) (h2 : env.frame = some L) (h3 : c.base.get? L = none) (h4 : h.get? L = some o) (h5 : o.data = .dict es n) : FrE c h env
noncomputable def FrOk (c : Cx) (l : List Env) (h : Heap) : Prop := ∀ env ∈ l, FrE c h env

inductive HmT (A : Around) (h : Heap) : Prop
  | mk (x : Addr) (o : Obj) (vs : Array Value) (h1 : A.handled = some (.ref x)) (h2 : h.get? x = some o) (h3 : o.data = .fields vs) (h4 : vs[2]? = some .none) : HmT A h
noncomputable def Hm (hm : Bool) (A : Around) (h : Heap) : Prop :=
  match hm with
  | true => HmT A h
  | false => A.handled = none

structure Room (c : Cx) (hm : Bool) (n : Nat) (A : Around) (l : List Env) (h : Heap) : Prop where
  fr : A.frames = some l
  ok : FrOk c l h
  depth : A.depth + n ≤ 900
  units : A.units + 10 * n ≤ 9000
  hm : Hm hm A h

theorem FrOk.keep {c : Cx} {l : List Env} {L : Addr} {h h' : Heap} {m : Str → Option Value} (k : Kp L h h') (hn : h.Ns L m) (x : FrOk c l h) : FrOk c l h' := by
  intro env he
  obtain ⟨h1, L', o, es, n, h2, h3, h4, h5⟩ := x env he
  by_cases hL : L' = L
  · subst hL
    obtain ⟨o', es', ep, h6, h7, _⟩ := k.ns m hn
    exact ⟨h1, L', o', es', ep, h2, h3, h6, h7⟩
  · obtain ⟨sl, h6⟩ := k.dct L' o hL h4
    exact ⟨h1, L', _, es, n, h2, h3, h6, h5⟩
theorem Hm.keep {hm : Bool} {A : Around} {L : Addr} {h h' : Heap} {m : Str → Option Value} (k : Kp L h h') (hn : h.Ns L m) (x : Hm hm A h) : Hm hm A h' := by
  cases hm with
  | false => exact x
  | true =>
    obtain ⟨y, o, vs, h1, h2, h3, h4⟩ := x
    exact ⟨y, o, vs, h1, k.keep hn h2 (notDict_of_fields h3), h3, h4⟩
theorem Room.keep {c : Cx} {hm : Bool} {n : Nat} {A : Around} {l : List Env} {L : Addr} {h h' : Heap} {m : Str → Option Value} (k : Kp L h h') (hn : h.Ns L m) (x : Room c hm n A l h) : Room c hm n A l h' :=
  ⟨x.fr, x.ok.keep k hn, x.depth, x.units, x.hm.keep k hn⟩
theorem Room.mono {c : Cx} {hm : Bool} {n n' : Nat} {A : Around} {l : List Env} {h : Heap} (x : Room c hm n A l h) (hn : n' ≤ n) : Room c hm n' A l h :=
  ⟨x.fr, x.ok, by have := x.depth; omega, by have := x.units; omega, x.hm⟩

noncomputable def Gd (c : Cx) (s : Shared) : Prop := c.base.StaysIn s.heap ∧ 1 ≤ s.toks

structure St (c : Cx) (L : Addr) (s s' : Shared) : Prop where
  same : ∃ h tk, s' = { s with heap := h, toks := tk }
  kp : Kp L s.heap s'.heap
  bs : Gd c s'

theorem St.trans {c : Cx} {L : Addr} {s s₁ s₂ : Shared} (x : St c L s s₁) (y : St c L s₁ s₂) : St c L s s₂ := by
  obtain ⟨h, tk, e⟩ := x.same
  obtain ⟨h', tk', e'⟩ := y.same
  exact ⟨⟨h', tk', by rw [e', e]⟩, x.kp.trans y.kp, y.bs⟩
theorem St.refl {c : Cx} {L : Addr} {s : Shared} (hb : Gd c s) : St c L s s := ⟨⟨_, _, rfl⟩, Kp.refl _ _, hb⟩
theorem St.toks {c : Cx} {L : Addr} {s : Shared} (hb : Gd c s) (t : Nat) (ht : 1 ≤ t) : St c L s { s with toks := t } := ⟨⟨_, _, rfl⟩, Kp.refl _ _, hb.1, ht⟩
theorem St.tok {c : Cx} {L : Addr} {s : Shared} (hb : Gd c s) (k : Nat) : St c L s { s with toks := s.toks + k } := St.toks hb _ (by have := hb.2; omega)
theorem St.of_keeps {c : Cx} {L : Addr} {s : Shared} (hb : Gd c s) (h : Heap) (t : Nat) (k : ∀ b o, s.heap.get? b = some o → h.get? b = some o) (ht : 1 ≤ t) : St c L s { s with heap := h, toks := t } :=
  ⟨⟨_, _, rfl⟩, Kp.of_keeps k, fun b o e => k b o (hb.1 b o e), ht⟩
theorem St.push {c : Cx} {L : Addr} {s : Shared} (hb : Gd c s) (o : Obj) : St c L s { s with heap := s.heap.push o } :=
  St.of_keeps hb _ _ (fun _ _ e => Heap.get?_push_of_some _ e) hb.2
/-- what was none stays so seen from earlier on -/
theorem Kp.gone {L a : Addr} {h h' : Heap} {m : Str → Option Value} (k : Kp L h h') (hn : h.Ns L m) (e : h'.get? a = none) : h.get? a = none := by
  cases q : h.get? a with
  | none => rfl
  | some o =>
    by_cases hL : a = L
    · subst hL
      obtain ⟨o', _, _, h6, _⟩ := k.ns m hn
      rw [e] at h6; exact nos h6
    · obtain ⟨sl, h6⟩ := k.dct a o hL q
      rw [e] at h6; exact nos h6

-- a list that bears no names of its own
inductive Nd (h : Heap) (a : Addr) : Prop
  | mk (o : Obj) (vs : Array Value) (k : Nat) (h1 : h.get? a = some o) (h2 : o.data = .seq vs k) (h3 : o.dict = none) : Nd h a
noncomputable def Lv (h h' : Heap) (lv : Nat) (fp : List Addr) : Prop :=
  (1 ≤ lv → ∀ a t, fp = a :: t → h.get? a = none ∧ a ∉ t ∧ Nd h' a) ∧ (2 ≤ lv → (∀ a ∈ fp, h.get? a = none ∧ Nd h' a) ∧ fp.Nodup)
theorem Lv.nil (h : Heap) (lv : Nat) {h' : Heap} : Lv h h' lv [] := ⟨fun _ _ _ e => (nomatch e), fun _ => ⟨fun _ ha => (nomatch ha), .nil⟩⟩
theorem Lv.zero (h : Heap) (fp : List Addr) {h' : Heap} : Lv h h' 0 fp := ⟨fun h => absurd h (by omega), fun h => absurd h (by omega)⟩
theorem Lv.back {h h' g : Heap} {lv : Nat} {fp : List Addr} (k : ∀ a, h'.get? a = none → h.get? a = none) (x : Lv h' g lv fp) : Lv h g lv fp :=
  ⟨fun h1 a t e => ⟨k a (x.1 h1 a t e).1, (x.1 h1 a t e).2⟩, fun h2 => ⟨fun a ha => ⟨k a ((x.2 h2).1 a ha).1, ((x.2 h2).1 a ha).2⟩, (x.2 h2).2⟩⟩
theorem Nd.keep {h h' : Heap} {a : Addr} {L : Addr} {m : Str → Option Value} (k : Kp L h h') (hn : h.Ns L m) (x : Nd h a) : Nd h' a := by
  obtain ⟨o, vs, j, h1, h2, h3⟩ := x
  exact ⟨o, vs, j, k.keep hn h1 (notDict_of_seq h2), h2, h3⟩
theorem Lv.nd {h h' g : Heap} {lv : Nat} {fp : List Addr} (k : ∀ a, Nd h' a → Nd g a) (x : Lv h h' lv fp) : Lv h g lv fp :=
  ⟨fun h1 a t e => ⟨(x.1 h1 a t e).1, (x.1 h1 a t e).2.1, k a (x.1 h1 a t e).2.2⟩, fun h2 => ⟨fun a ha => ⟨((x.2 h2).1 a ha).1, k a ((x.2 h2).1 a ha).2⟩, (x.2 h2).2⟩⟩
theorem Lv.keep {h h' g : Heap} {lv : Nat} {fp : List Addr} {L : Addr} {m : Str → Option Value} (k : Kp L h' g) (hn : h'.Ns L m) (x : Lv h h' lv fp) : Lv h g lv fp :=
  ⟨fun h1 a t e => ⟨(x.1 h1 a t e).1, (x.1 h1 a t e).2.1, (x.1 h1 a t e).2.2.keep k hn⟩, fun h2 => ⟨fun a ha => ⟨((x.2 h2).1 a ha).1, ((x.2 h2).1 a ha).2.keep k hn⟩, (x.2 h2).2⟩⟩
theorem Lv.one {h h' : Heap} {a : Addr} {lv : Nat} (ha : h.get? a = none) (hd : Nd h' a) : Lv h h' lv [a] :=
  ⟨fun _ b t e => by cases e; exact ⟨ha, by simp, hd⟩, fun _ => ⟨fun b hb => by simp at hb; subst hb; exact ⟨ha, hd⟩, by simp⟩⟩

/-- an exception in flight, come from a callee: the frames l are those that stand -/
inductive Fly (c : Cx) (L : Addr) (l : List Env) (s : Shared) (x : Value) (k : Str) (s' : Shared) : Prop
  | mk (a C : Addr) (t : Value) (bs : Heap) (h1 : x = .ref a) (h2 : c.mg k = some (.ref C)) (h3 : St c L s s') (h4 : c.base.StaysIn bs)
    (h5 : ∀ b o, s.heap.get? b = some o → NotDict o → bs.get? b = some o)
    (h6 : s.heap.get? a = none) (h7 : Heap.FlyingW bs l a (.ref C) t s'.heap)
    (h8 : ∃ o vs, s'.heap.get? a = some o ∧ o.data = .fields vs ∧ vs[2]? = some .none ∧ o.dict = none) : Fly c L l s x k s'
theorem Fly.back {c : Cx} {L : Addr} {l : List Env} {s s₁ s' : Shared} {x : Value} {k : Str} {m : Str → Option Value} (st : St c L s s₁) (hn : s.heap.Ns L m)
    (f : Fly c L l s₁ x k s') : Fly c L l s x k s' := by
  obtain ⟨a, C, t, bs, h1, h2, h3, h4, h5, h6, h7, h8⟩ := f
  exact ⟨a, C, t, bs, h1, h2, st.trans h3, h4, fun b o e nd => h5 b o (st.kp.keep hn e nd) nd, st.kp.gone hn h6, h7, h8⟩

/-- an operation upon values, and what it makes of data -/
noncomputable def OpN (c : Cx) (hm : Bool) (n : Nat) (op : List Value → Sem Value) (F : List D → Option (R (D × Nat))) : Prop :=
  ∀ (A : Around) (l : List Env) (L : Addr) (m : Str → Option Value) (s : Shared) (vs : List Value) (ds : List D) (fp : List Addr) (r : R (D × Nat)) (Q : Value → Shared → Prop) (E : Value → Shared → Prop),
    Room c hm n A l s.heap → s.heap.Ns L m → c.base.get? L = none → Gd c s → Rps c.mg s.heap vs ds fp → F ds = some r →
    (∀ v d lv fp' s', r = .ok (d, lv) → St c L s s' → Rp c.mg s'.heap v d fp' → (∀ a ∈ fp', s.heap.get? a = none ∨ a ∈ fp) → Lv s.heap s'.heap lv fp' → Q v s') →
    (∀ x k s', r = .exc k → Fly c L l s x k s' → E x s') →
    wpAny (model c.prog c.w) A (op vs) Q E s

/-- a name of the frame holds a value -/
noncomputable def Bd (env : Env) (h : Heap) (x : Str) (v : Value) : Prop :=
  (x == ("__debug__" : Str)) = false ∧ (x == ("__classdict__" : Str)) = false ∧
  ((env.kindOf x = some .local ∧ ∃ m, h.Ns env.locals m ∧ m x = some v) ∨
    ((env.kindOf x = some .cell ∨ env.kindOf x = some .free) ∧ ∃ cl, env.cells.lookup x = some cl ∧ h.IsCell cl (some v)))

theorem notDict_of_cell {o : Obj} {v} (h : o.data = .cell v) : NotDict o := fun es m e => by rw [h] at e; cases e
theorem Bd.keep {env : Env} {h h' : Heap} {x : Str} {v : Value} {m : Str → Option Value} (k : Kp env.locals h h') (hn : h.Ns env.locals m) (b : Bd env h x v) : Bd env h' x v := by
  obtain ⟨hd, hc, b⟩ := b
  refine ⟨hd, hc, ?_⟩
  rcases b with ⟨h1, m', h2, h3⟩ | ⟨h1, cl, h2, o, h3, h4⟩
  · exact .inl ⟨h1, m', k.ns _ h2, h3⟩
  · exact .inr ⟨h1, cl, h2, o, k.keep hn h3 (notDict_of_cell h4), h4⟩

structure Rd (c : Cx) (env : Env) (nm : List Str) (Γ : G) (vf : Nat → Value × List Addr) (s : Shared) : Prop where
  bs : Gd c s
  ns : ∃ m, s.heap.Ns env.locals m
  nb : c.base.get? env.locals = none
  fn : env.scope.kind = .function
  gl : env.globals = mainGlobals
  bl : env.builtins = builtinsNs
  cl : ∀ x, env.scope.names.lookup x = some .cell → ∃ a, env.cells.lookup x = some a
  var : ∀ i d lv, Γ[i]? = some (some (d, lv)) → ∃ x, nm[i]? = some x ∧ Bd env s.heap x (vf i).1 ∧ Rp c.mg s.heap (vf i).1 d (vf i).2

theorem Rd.keep {c : Cx} {env : Env} {nm : List Str} {Γ : G} {vf : Nat → Value × List Addr} {s s' : Shared} (k : St c env.locals s s') (x : Rd c env nm Γ vf s) : Rd c env nm Γ vf s' := by
  obtain ⟨m, hm⟩ := x.ns
  refine ⟨k.bs, ⟨m, k.kp.ns m hm⟩, x.nb, x.fn, x.gl, x.bl, x.cl, fun i d lv e => ?_⟩
  obtain ⟨y, h1, h2, h3⟩ := x.var i d lv e
  exact ⟨y, h1, h2.keep k.kp hm, k.kp.rp hm h3⟩

noncomputable def Tr (h : Heap) (vf : Nat → Value × List Addr) (occ : List Nat) (fp : List Addr) : Prop := ∀ a ∈ fp, h.get? a = none ∨ ∃ j ∈ occ, a ∈ (vf j).2
theorem Tr.nil {h : Heap} {vf : Nat → Value × List Addr} {occ : List Nat} : Tr h vf occ [] := fun _ ha => nomatch ha
theorem Tr.left {h : Heap} {vf : Nat → Value × List Addr} {o1 o2 : List Nat} {fp : List Addr} (x : Tr h vf o1 fp) : Tr h vf (o1 ++ o2) fp :=
  fun a ha => (x a ha).imp id fun ⟨j, h1, h2⟩ => ⟨j, List.mem_append_left _ h1, h2⟩
theorem Tr.right {h : Heap} {vf : Nat → Value × List Addr} {o1 o2 : List Nat} {fp : List Addr} (x : Tr h vf o2 fp) : Tr h vf (o1 ++ o2) fp :=
  fun a ha => (x a ha).imp id fun ⟨j, h1, h2⟩ => ⟨j, List.mem_append_right _ h1, h2⟩
theorem Tr.back {h h' : Heap} {vf : Nat → Value × List Addr} {occ : List Nat} {fp : List Addr} (k : ∀ a, h'.get? a = none → h.get? a = none) (x : Tr h' vf occ fp) : Tr h vf occ fp :=
  fun a ha => (x a ha).imp (k a) id
theorem Tr.append {h : Heap} {vf : Nat → Value × List Addr} {occ : List Nat} {f g : List Addr} (x : Tr h vf occ f) (y : Tr h vf occ g) : Tr h vf occ (f ++ g) :=
  fun a ha => (List.mem_append.mp ha).elim (x a) (y a)

/-- an expression, what it makes of the frame's data; occ: the places that it reads -/
noncomputable def Den (c : Cx) (hm : Bool) (n : Nat) (sc : Scope) (nm : List Str) (e : Expr) (occ : List Nat) (f : G → Option (R (D × Nat))) : Prop :=
  ∀ (A : Around) (l : List Env) (env : Env) (Γ : G) (vf : Nat → Value × List Addr) (s : Shared) (r : R (D × Nat)) (Q : Value → Shared → Prop) (E : Value → Shared → Prop),
    env.scope = sc → Room c hm n A l s.heap → Rd c env nm Γ vf s → f Γ = some r →
    (∀ v d lv fp s', r = .ok (d, lv) → St c env.locals s s' → Rp c.mg s'.heap v d fp → Tr s.heap vf occ fp → Lv s.heap s'.heap lv fp → Q v s') →
    (∀ x k s', r = .exc k → Fly c env.locals l s x k s' → E x s') →
    wpAny (model c.prog c.w) A (eval e env) Q E s

/-- a test -/
noncomputable def DenB (c : Cx) (hm : Bool) (n : Nat) (sc : Scope) (nm : List Str) (e : Expr) (f : G → Option (R Bool)) : Prop :=
  ∀ (A : Around) (l : List Env) (env : Env) (Γ : G) (vf : Nat → Value × List Addr) (s : Shared) (r : R Bool) (Q : Bool → Shared → Prop) (E : Value → Shared → Prop),
    env.scope = sc → Room c hm n A l s.heap → Rd c env nm Γ vf s → f Γ = some r →
    (∀ b s', r = .ok b → St c env.locals s s' → Q b s') →
    (∀ x k s', r = .exc k → Fly c env.locals l s x k s' → E x s') →
    wpAny (model c.prog c.w) A (isTrue e env (eval e env)) Q E s

/-- arguments, items -/
noncomputable def DenA (c : Cx) (hm : Bool) (n : Nat) (sc : Scope) (nm : List Str) (es : List Expr) (occ : List Nat) (f : G → Option (R (List D))) : Prop :=
  ∀ (A : Around) (l : List Env) (env : Env) (Γ : G) (vf : Nat → Value × List Addr) (s : Shared) (pos : Pos) (r : R (List D)) (Q : List Value → Shared → Prop) (E : Value → Shared → Prop),
    env.scope = sc → Room c hm n A l s.heap → Rd c env nm Γ vf s → f Γ = some r →
    (∀ vs ds fp s', r = .ok ds → St c env.locals s s' → Rps c.mg s'.heap vs ds fp → Tr s.heap vf occ fp → Q vs s') →
    (∀ x k s', r = .exc k → Fly c env.locals l s x k s' → E x s') →
    wpAny (model c.prog c.w) A (spliced (backTo pos (starEach es env))) Q E s

end Mine
namespace Mine
open PySem PySem.Calls PyProof.Rows

section
variable {c : Cx} {hm : Bool} {n : Nat} {sc : Scope} {nm : List Str}

/-- an expression is run, and what follows it -/
theorem Den.run {β : Type} {e : Expr} {occ : List Nat} {f : G → Option (R (D × Nat))} (hd : Den c hm n sc nm e occ f) {g : D × Nat → Option (R β)} {r : R β}
    {A : Around} {l : List Env} {env : Env} {Γ : G} {vf : Nat → Value × List Addr} {s : Shared} {Q : Value → Shared → Prop} {E : Value → Shared → Prop}
    (hsc : env.scope = sc) (hR : Room c hm n A l s.heap) (hRd : Rd c env nm Γ vf s) (hx : bindR (f Γ) g = some r)
    (hok : ∀ d lv, f Γ = some (.ok (d, lv)) → g (d, lv) = some r → ∀ v fp s', St c env.locals s s' → Rp c.mg s'.heap v d fp → Tr s.heap vf occ fp → Lv s.heap s'.heap lv fp →
      Room c hm n A l s'.heap → Rd c env nm Γ vf s' → Q v s')
    (hexc : ∀ x k s', r = .exc k → Fly c env.locals l s x k s' → E x s') : wpAny (model c.prog c.w) A (eval e env) Q E s := by
  obtain ⟨m, hn⟩ := hRd.ns
  rcases bindR_some hx with ⟨⟨d, lv⟩, h1, h2⟩ | ⟨k, h1, rfl⟩
  · exact hd A l env Γ vf s _ Q E hsc hR hRd h1 (fun v d' lv' fp s' e st rp tr lvl => by cases e; exact hok d lv h1 h2 v fp s' st rp tr lvl (hR.keep st.kp hn) (hRd.keep st)) fun x k s' e => by cases e
  · exact hd A l env Γ vf s _ Q E hsc hR hRd h1 (fun v d' lv' fp s' e => by cases e) fun x k' s' e fl => by cases e; exact hexc x k s' rfl fl
theorem DenA.run {β : Type} {es : List Expr} {occ : List Nat} {f : G → Option (R (List D))} (hd : DenA c hm n sc nm es occ f) {g : List D → Option (R β)} {r : R β}
    {A : Around} {l : List Env} {env : Env} {Γ : G} {vf : Nat → Value × List Addr} {s : Shared} {pos : Pos} {Q : List Value → Shared → Prop} {E : Value → Shared → Prop}
    (hsc : env.scope = sc) (hR : Room c hm n A l s.heap) (hRd : Rd c env nm Γ vf s) (hx : bindR (f Γ) g = some r)
    (hok : ∀ ds, f Γ = some (.ok ds) → g ds = some r → ∀ vs fp s', St c env.locals s s' → Rps c.mg s'.heap vs ds fp → Tr s.heap vf occ fp →
      Room c hm n A l s'.heap → Rd c env nm Γ vf s' → Q vs s')
    (hexc : ∀ x k s', r = .exc k → Fly c env.locals l s x k s' → E x s') : wpAny (model c.prog c.w) A (spliced (backTo pos (starEach es env))) Q E s := by
  obtain ⟨m, hn⟩ := hRd.ns
  rcases bindR_some hx with ⟨ds, h1, h2⟩ | ⟨k, h1, rfl⟩
  · exact hd A l env Γ vf s pos _ Q E hsc hR hRd h1 (fun vs ds' fp s' e st rp tr => by cases e; exact hok ds h1 h2 vs fp s' st rp tr (hR.keep st.kp hn) (hRd.keep st)) fun x k s' e => by cases e
  · exact hd A l env Γ vf s pos _ Q E hsc hR hRd h1 (fun v d' fp s' e => by cases e) fun x k' s' e fl => by cases e; exact hexc x k s' rfl fl
theorem DenB.run {β : Type} {e : Expr} {f : G → Option (R Bool)} (hd : DenB c hm n sc nm e f) {g : Bool → Option (R β)} {r : R β}
    {A : Around} {l : List Env} {env : Env} {Γ : G} {vf : Nat → Value × List Addr} {s : Shared} {Q : Bool → Shared → Prop} {E : Value → Shared → Prop}
    (hsc : env.scope = sc) (hR : Room c hm n A l s.heap) (hRd : Rd c env nm Γ vf s) (hx : bindR (f Γ) g = some r)
    (hok : ∀ b, f Γ = some (.ok b) → g b = some r → ∀ s', St c env.locals s s' → Room c hm n A l s'.heap → Rd c env nm Γ vf s' → Q b s')
    (hexc : ∀ x k s', r = .exc k → Fly c env.locals l s x k s' → E x s') : wpAny (model c.prog c.w) A (isTrue e env (eval e env)) Q E s := by
  obtain ⟨m, hn⟩ := hRd.ns
  rcases bindR_some hx with ⟨b, h1, h2⟩ | ⟨k, h1, rfl⟩
  · exact hd A l env Γ vf s _ Q E hsc hR hRd h1 (fun b' s' e st => by cases e; exact hok b h1 h2 s' st (hR.keep st.kp hn) (hRd.keep st)) fun x k s' e => by cases e
  · exact hd A l env Γ vf s _ Q E hsc hR hRd h1 (fun v s' e => by cases e) fun x k' s' e fl => by cases e; exact hexc x k s' rfl fl

-- names
noncomputable def getV (i : Nat) (Γ : G) : Option (R (D × Nat)) := match Γ[i]? with
  | some (some (d, _)) => some (.ok (d, 0))
  | _ => none
theorem load_bd {env : Env} {x : Str} {v : Value} {pos : Pos} {M : Model} {A : Around} {s : Shared} {Q : Value → Shared → Prop} {E : Value → Shared → Prop}
    (hk : env.scope.kind = .function) (b : Bd env s.heap x v) (h : Q v s) : wpAny M A (eval (.Name x pos) env) Q E s := by
  obtain ⟨hd, hc, b⟩ := b
  rcases b with ⟨h1, m, h2, h3⟩ | ⟨h1 | h1, cl, h2, h3⟩
  · exact wpAny_Name (wpAny_loadName_local hk h1 h2 h3 h) hd
  · exact wpAny_Name (wpAny_loadName_cell hk h1 h2 h3 h) hd
  · exact wpAny_Name (wpAny_loadName_free hk h1 h2 h3 h hc) hd
theorem den_var {x : Str} {pos : Pos} (i : Nat) (hx : nm[i]? = some x := by rfl) : Den c hm n sc nm (.Name x pos) [i] (getV i) := by
  intro A l env Γ vf s r Q E hsc hR hRd hf hQ hE
  unfold getV at hf
  split at hf
  · rename_i d lv hi
    obtain ⟨y, h1, h2, h3⟩ := hRd.var i d lv hi
    rw [hx] at h1; obtain rfl := Option.some.inj h1
    obtain rfl := Option.some.inj hf
    exact load_bd hRd.fn h2 (hQ _ _ _ _ _ rfl (St.refl hRd.bs) h3 (fun a ha => .inr ⟨i, by simp, ha⟩) (Lv.zero _ _))
  · exact nos hf

-- literals
theorem den_none {k : Nat} {pos : Pos} : Den c hm n sc nm (.Constant .none k pos) [] (fun _ => some (.ok (.none, 2))) := by
  intro A l env Γ vf s r Q E hsc hR hRd hf hQ hE
  obtain rfl := Option.some.inj hf
  exact Constant_none (hQ _ _ _ _ _ rfl (St.refl hRd.bs) .none Tr.nil (Lv.nil _ _))
theorem den_bool {b : Bool} {k : Nat} {pos : Pos} : Den c hm n sc nm (.Constant (.bool b) k pos) [] (fun _ => some (.ok (.bool b, 2))) := by
  intro A l env Γ vf s r Q E hsc hR hRd hf hQ hE
  obtain rfl := Option.some.inj hf
  exact Constant_bool (hQ _ _ _ _ _ rfl (St.refl hRd.bs) (.bool b) Tr.nil (Lv.nil _ _))
theorem den_int {i : Int} {k : Nat} {pos : Pos} : Den c hm n sc nm (.Constant (.int i) k pos) [] (fun _ => some (.ok (.int i, 2))) := by
  intro A l env Γ vf s r Q E hsc hR hRd hf hQ hE
  obtain rfl := Option.some.inj hf
  exact wpAny_Constant_int (hQ _ _ _ _ _ rfl (St.tok hRd.bs 1) (.int i _) Tr.nil (Lv.nil _ _))
theorem den_str {x : Str} {k : Nat} {pos : Pos} : Den c hm n sc nm (.Constant (.str x) k pos) [] (fun _ => some (.ok (.str x.cps.toList, 2))) := by
  intro A l env Γ vf s r Q E hsc hR hRd hf hQ hE
  obtain rfl := Option.some.inj hf
  exact Constant_str (hQ _ _ _ _ _ rfl (St.tok hRd.bs 1) (by have := Rp.str (X := c.mg) (h := s.heap) x.cps.toList s.toks; simpa using this) Tr.nil (Lv.nil _ _))

theorem den_strL {x : Str} {k : Nat} {pos : Pos} {l : List Nat} (h : x.cps.toList = l := by kernel_rfl) : Den c hm n sc nm (.Constant (.str x) k pos) [] (fun _ => some (.ok (.str l, 2))) := by subst h; exact den_str

-- operators
noncomputable def opBin (op : Operator) : List Value → Sem Value
  | [a, b] => binaryOp op a b
  | _ => .unsupported ""
noncomputable def opCmp (op : CmpOp) : List Value → Sem Value
  | [a, b] => compareOp op a b
  | _ => .unsupported ""
noncomputable def opUn (op : UnaryOp) : List Value → Sem Value
  | [a] => unaryOp op a
  | _ => .unsupported ""

theorem Rps.one {X : Str → Option Value} {h : Heap} {v : Value} {d : D} {f : List Addr} (r : Rp X h v d f) : Rps X h [v] [d] f := by
  have := Rps.cons r (Rps.nil (X := X) (h := h)); simpa using this
theorem Rps.two {X : Str → Option Value} {h : Heap} {v v' : Value} {d d' : D} {f f' : List Addr} (r : Rp X h v d f) (r' : Rp X h v' d' f') : Rps X h [v, v'] [d, d'] (f ++ f') := Rps.cons r (Rps.one r')

theorem den_bin {op : Operator} {F : List D → Option (R (D × Nat))} {e₁ e₂ : Expr} {pos : Pos} {o1 o2 : List Nat} {f g : G → Option (R (D × Nat))}
    (ho : OpN c hm n (opBin op) F) (h1 : Den c hm n sc nm e₁ o1 f) (h2 : Den c hm n sc nm e₂ o2 g) :
    Den c hm n sc nm (.BinOp e₁ op e₂ pos) (o1 ++ o2) (fun Γ => bindR (f Γ) fun a => bindR (g Γ) fun b => F [a.1, b.1]) := by
  intro A l env Γ vf s r Q E hsc hR hRd hf hQ hE
  obtain ⟨m, hn⟩ := hRd.ns
  refine wpAny_BinOp (h1.run hsc hR hRd hf (fun a la _ hf va fa s₁ st₁ ra ta lva hR₁ hRd₁ => ?_) hE)
  obtain ⟨m₁, hn₁⟩ := hRd₁.ns
  refine h2.run hsc hR₁ hRd₁ hf (fun b lb _ hf vb fb s₂ st₂ rb tb lvb hR₂ hRd₂ => ?_) (fun x k s' e fl => hE x k s' e (fl.back st₁ hn))
  obtain ⟨m₂, hn₂⟩ := hRd₂.ns
  refine ho A l env.locals m₂ s₂ [va, vb] [a, b] (fa ++ fb) r Q E hR₂ hn₂ hRd₂.nb hRd₂.bs (Rps.two (st₂.kp.rp hn₁ ra) rb) hf (fun v d lv fp s₃ e st₃ rp tr lvl => ?_) (fun x k s' e fl => hE x k s' e ((fl.back st₂ hn₁).back st₁ hn))
  have st := (st₁.trans st₂)
  refine hQ v d lv fp s₃ e (st.trans st₃) rp (fun x hx => ?_) (lvl.back fun x hx => st.kp.gone hn hx)
  rcases tr x hx with h | h
  · exact .inl (st.kp.gone hn h)
  · rcases List.mem_append.mp h with h | h
    · exact ta.left x h
    · exact (tb.back fun y hy => st₁.kp.gone hn hy).right x h

theorem den_cmp {op : CmpOp} {F : List D → Option (R (D × Nat))} {e₁ e₂ : Expr} {pos : Pos} {o1 o2 : List Nat} {f g : G → Option (R (D × Nat))}
    (ho : OpN c hm n (opCmp op) F) (h1 : Den c hm n sc nm e₁ o1 f) (h2 : Den c hm n sc nm e₂ o2 g) (hmk : behindInMarks op e₂ = false := by kernel_rfl) :
    Den c hm n sc nm (.Compare e₁ [op] [e₂] pos) (o1 ++ o2) (fun Γ => bindR (f Γ) fun a => bindR (g Γ) fun b => F [a.1, b.1]) := by
  intro A l env Γ vf s r Q E hsc hR hRd hf hQ hE
  obtain ⟨m, hn⟩ := hRd.ns
  refine wpAny_Compare1 (h1.run hsc hR hRd hf (fun a la _ hf va fa s₁ st₁ ra ta lva hR₁ hRd₁ => ?_) hE) hmk
  obtain ⟨m₁, hn₁⟩ := hRd₁.ns
  refine h2.run hsc hR₁ hRd₁ hf (fun b lb _ hf vb fb s₂ st₂ rb tb lvb hR₂ hRd₂ => ?_) (fun x k s' e fl => hE x k s' e (fl.back st₁ hn))
  obtain ⟨m₂, hn₂⟩ := hRd₂.ns
  refine ho A l env.locals m₂ s₂ [va, vb] [a, b] (fa ++ fb) r Q E hR₂ hn₂ hRd₂.nb hRd₂.bs (Rps.two (st₂.kp.rp hn₁ ra) rb) hf (fun v d lv fp s₃ e st₃ rp tr lvl => ?_) (fun x k s' e fl => hE x k s' e ((fl.back st₂ hn₁).back st₁ hn))
  have st := (st₁.trans st₂)
  refine hQ v d lv fp s₃ e (st.trans st₃) rp (fun x hx => ?_) (lvl.back fun x hx => st.kp.gone hn hx)
  rcases tr x hx with h | h
  · exact .inl (st.kp.gone hn h)
  · rcases List.mem_append.mp h with h | h
    · exact ta.left x h
    · exact (tb.back fun y hy => st₁.kp.gone hn hy).right x h

theorem den_un {op : UnaryOp} {F : List D → Option (R (D × Nat))} {e : Expr} {pos : Pos} {o1 : List Nat} {f : G → Option (R (D × Nat))}
    (ho : OpN c hm n (opUn op) F) (h1 : Den c hm n sc nm e o1 f) : Den c hm n sc nm (.UnaryOp op e pos) o1 (fun Γ => bindR (f Γ) fun a => F [a.1]) := by
  intro A l env Γ vf s r Q E hsc hR hRd hf hQ hE
  obtain ⟨m, hn⟩ := hRd.ns
  refine UnaryOp_ (h1.run hsc hR hRd hf (fun a la _ hf va fa s₁ st₁ ra ta lva hR₁ hRd₁ => ?_) hE)
  obtain ⟨m₁, hn₁⟩ := hRd₁.ns
  refine ho A l env.locals m₁ s₁ [va] [a] fa r Q E hR₁ hn₁ hRd₁.nb hRd₁.bs (Rps.one ra) hf (fun v d lv fp s₃ e st₃ rp tr lvl => ?_) (fun x k s' e fl => hE x k s' e (fl.back st₁ hn))
  refine hQ v d lv fp s₃ e (st₁.trans st₃) rp (fun x hx => ?_) (lvl.back fun x hx => st₁.kp.gone hn hx)
  rcases tr x hx with h | h
  · exact .inl (st₁.kp.gone hn h)
  · exact ta x h

-- arguments
theorem denA_nil : DenA c hm n sc nm [] [] (fun _ => some (.ok [])) := by
  intro A l env Γ vf s pos r Q E hsc hR hRd hf hQ hE
  obtain rfl := Option.some.inj hf
  exact args_nil (hQ _ _ _ _ rfl (St.refl hRd.bs) .nil Tr.nil)
noncomputable def NotStar (e : Expr) : Prop := ∀ rest env, starEach (e :: rest) env = (false, eval e env) :: starEach rest env
theorem denA_cons {e : Expr} {rest : List Expr} {o1 o2 : List Nat} {f : G → Option (R (D × Nat))} {g : G → Option (R (List D))}
    (h1 : Den c hm n sc nm e o1 f) (h2 : DenA c hm n sc nm rest o2 g) (hs : NotStar e := by intro _ _; rfl) :
    DenA c hm n sc nm (e :: rest) (o1 ++ o2) (fun Γ => bindR (f Γ) fun a => bindR (g Γ) fun b => some (.ok (a.1 :: b))) := by
  intro A l env Γ vf s pos r Q E hsc hR hRd hf hQ hE
  obtain ⟨m, hn⟩ := hRd.ns
  refine args_cons (h1.run hsc hR hRd hf (fun a la _ hf va fa s₁ st₁ ra ta lva hR₁ hRd₁ => ?_) hE) (hs _ _)
  obtain ⟨m₁, hn₁⟩ := hRd₁.ns
  refine h2.run hsc hR₁ hRd₁ hf (fun b _ hf vb fb s₂ st₂ rb tb hR₂ hRd₂ => ?_) (fun x k s' e fl => hE x k s' e (fl.back st₁ hn))
  obtain rfl := Option.some.inj hf
  exact hQ _ _ _ _ rfl (st₁.trans st₂) (.cons (st₂.kp.rp hn₁ ra) rb) (ta.left.append (tb.back fun y hy => st₁.kp.gone hn hy).right)

-- displays
theorem fresh_size (h : Heap) : h.get? h.objs.size = none := Heap.get?_none_of_le (Nat.le_refl _)
noncomputable def lvOf (ds : List D) : Nat := if D.flats ds then 2 else 1
theorem lv_new {h h₁ : Heap} {vs : List Value} {X : Str → Option Value} {ds : List D} {fp : List Addr} {a : Addr} (r : Rps X h₁ vs ds fp) (h1 : h₁.get? a = none) (ha : h.get? a = none) {h' : Heap} (hd : Nd h' a) : Lv h h' (lvOf ds) (a :: fp) := by
  have hna : a ∉ fp := fun hm => by obtain ⟨o, _, _, e, _⟩ := r.fp_list a hm; rw [h1] at e; exact nos e
  unfold lvOf
  split
  · rename_i hfl
    rw [r.flat_fp hfl]
    exact Lv.one ha hd
  · exact ⟨fun _ b t e => by cases e; exact ⟨ha, hna, hd⟩, fun h => absurd h (by omega)⟩
noncomputable def listF (ds : List D) : Option (R (D × Nat)) := if ds.length ≤ 1000000 then some (.ok (.list ds, lvOf ds)) else none
theorem den_list {es : List Expr} {pos : Pos} {o1 : List Nat} {f : G → Option (R (List D))} (h1 : DenA c hm n sc nm es o1 f) :
    Den c hm n sc nm (.List es pos) o1 (fun Γ => bindR (f Γ) listF) := by
  intro A l env Γ vf s r Q E hsc hR hRd hf hQ hE
  obtain ⟨m, hn⟩ := hRd.ns
  refine List_ (h1.run hsc hR hRd hf (fun ds _ hf vs fs s₁ st₁ rs ts hR₁ hRd₁ => ?_) hE)
  unfold listF at hf
  split at hf
  · rename_i hlen
    obtain rfl := Option.some.inj hf
    refine wpAny_newObj_type ?_ (show vs.toArray.size ≤ sizeLine by rw [List.size_toArray, rs.length]; unfold sizeLine; omega)
    have hp := St.push (c := c) (L := env.locals) (s := s₁) hRd₁.bs { cls := .type "list", data := .seq vs.toArray }
    refine hQ _ _ _ _ _ rfl (st₁.trans hp) (.list (Heap.get?_push_size _ rfl) rfl rfl (by simpa using rs.keep fun b o e _ => Heap.get?_push_of_some _ e)) ?_ (lv_new rs (fresh_size _) (st₁.kp.gone hn (fresh_size _)) ⟨_, _, _, Heap.get?_push_size _ rfl, rfl, rfl⟩)
    intro a ha
    rcases List.mem_cons.mp ha with rfl | ha
    · exact .inl (st₁.kp.gone hn (fresh_size _))
    · exact ts a ha
  · exact nos hf
noncomputable def tupF (ds : List D) : Option (R (D × Nat)) := if ds.length ≤ 1000000 then some (.ok (.tup ds, if D.flats ds then 2 else 0)) else none
theorem den_tup {es : List Expr} {k : Nat} {pos : Pos} {o1 : List Nat} {f : G → Option (R (List D))} (h1 : DenA c hm n sc nm es o1 f) :
    Den c hm n sc nm (.Tuple es k pos) o1 (fun Γ => bindR (f Γ) tupF) := by
  intro A l env Γ vf s r Q E hsc hR hRd hf hQ hE
  obtain ⟨m, hn⟩ := hRd.ns
  refine Tuple_ (h1.run hsc hR hRd hf (fun ds _ hf vs fs s₁ st₁ rs ts hR₁ hRd₁ => ?_) hE)
  unfold tupF at hf
  split at hf
  · rename_i hlen
    obtain rfl := Option.some.inj hf
    refine wpAny_newObj_type ?_ (show vs.toArray.size ≤ sizeLine by rw [List.size_toArray, rs.length]; unfold sizeLine; omega)
    have hp := St.push (c := c) (L := env.locals) (s := s₁) hRd₁.bs { cls := .type "tuple", data := .seq vs.toArray }
    refine hQ _ _ _ _ _ rfl (st₁.trans hp) (.tup (Heap.get?_push_size _ rfl) rfl rfl (by simpa using rs.keep fun b o e _ => Heap.get?_push_of_some _ e)) ts ?_
    split
    · rename_i hfl
      rw [rs.flat_fp hfl]; exact Lv.nil _ _
    · exact Lv.zero _ _
  · exact nos hf
end
end Mine
namespace Mine
open PySem PySem.Calls PyProof.Rows

section
variable {c : Cx} {hm : Bool} {n : Nat} {sc : Scope} {nm : List Str}

noncomputable def big : Nat := 1000000000
noncomputable def truthD : D → Option Bool
  | .none => some false
  | .bool b => some b
  | .int i => some (i != 0)
  | .str s => if s.length ≤ big then some (!s.isEmpty) else none
  | .list xs => if xs.length ≤ big then some (!xs.isEmpty) else none
  | _ => none

theorem truthy_D {L : Addr} {A : Around} {s : Shared} {v : Value} {d : D} {fp : List Addr} {b : Bool} {Q : Bool → Shared → Prop} {E : Value → Shared → Prop} (hb : Gd c s)
    (r : Rp c.mg s.heap v d fp) (h : truthD d = some b) (hQ : ∀ s', St c L s s' → Q b s') : wpAny (model c.prog c.w) A (truthy v) Q E s := by
  cases r with
  | none => obtain rfl := Option.some.inj h; exact truthy_none (hQ _ (St.refl hb))
  | bool b' => obtain rfl := Option.some.inj h; exact wpAny_truthy_bool (hQ _ (St.refl hb))
  | int i t => obtain rfl := Option.some.inj h; exact PyProof.Rows.truthy_int (hQ _ (St.refl hb))
  | str x t =>
    simp only [truthD] at h
    split at h
    · rename_i hl
      obtain rfl := Option.some.inj h
      refine PySem.P.truthy_str ?_ ?_
      · have : (Str.mk x.toArray).length = x.length := by simp [Str.length]
        rw [this]; unfold big at hl; omega
      · have : (((Str.mk x.toArray).length : Int) != 0) = !x.isEmpty := by
          have h1 : (Str.mk x.toArray).length = x.length := by simp [Str.length]
          rw [h1]
          cases x <;> simp
          omega
        rw [this]; exact hQ _ (St.tok hb 2)
    · exact nos h
  | @list a o vs k xs f h1 h2 h3 rs =>
    simp only [truthD] at h
    split at h
    · rename_i hl
      obtain rfl := Option.some.inj h
      have hlen := rs.length
      refine wpAny_truthy_list (items := vs) ⟨o, h1, h2, k, h3⟩ ?_ ?_
      · have : vs.size = xs.length := by simpa using hlen
        rw [this]; unfold big at hl; omega
      · have : (!vs.isEmpty) = !xs.isEmpty := by
          have h5 : vs.size = xs.length := by simpa using hlen
          congr 1
          rw [Bool.eq_iff_iff, Array.isEmpty_iff_size_eq_zero, h5]
          cases xs <;> simp
        rw [this]; exact hQ _ (St.tok hb 2)
    · exact nos h
  | tup => exact nos h
  | exc => exact nos h


-- tests
theorem denB_val {e : Expr} {o : List Nat} {f : G → Option (R (D × Nat))} (h1 : Den c hm n sc nm e o f)
    (he : ∀ env whole, isTrue e env whole = (do let v ← whole; standAt e.pos; holding [v] (truthy v)) := by intro _ _; rfl) :
    DenB c hm n sc nm e (fun Γ => bindR (f Γ) fun a => (truthD a.1).map .ok) := by
  intro A l env Γ vf s r Q E hsc hR hRd hf hQ hE
  refine isTrue_plain (h1.run hsc hR hRd hf (fun a la _ hf va fa s₁ st₁ ra ta lva hR₁ hRd₁ => ?_) hE) (he _ _)
  obtain ⟨b, hb, rfl⟩ := Option.map_eq_some_iff.mp hf
  exact truthy_D hRd₁.bs ra hb fun s' st => hQ _ _ rfl (st₁.trans st)
theorem denB_not {e : Expr} {pos : Pos} {f : G → Option (R Bool)} (h1 : DenB c hm n sc nm e f) : DenB c hm n sc nm (.UnaryOp .Not e pos) (fun Γ => bindR (f Γ) fun b => some (.ok (!b))) := by
  intro A l env Γ vf s r Q E hsc hR hRd hf hQ hE
  refine isTrue_not (h1.run hsc hR hRd hf (fun b _ hf s' st _ _ => ?_) hE)
  obtain rfl := Option.some.inj hf
  exact hQ _ _ rfl st
theorem denB_cmp {op : CmpOp} {F : List D → Option (R (D × Nat))} {e₁ e₂ : Expr} {pos : Pos} {o1 o2 : List Nat} {f g : G → Option (R (D × Nat))}
    (ho : OpN c hm n (opCmp op) F) (h1 : Den c hm n sc nm e₁ o1 f) (h2 : Den c hm n sc nm e₂ o2 g) (hmk : behindInMarks op e₂ = false := by kernel_rfl) :
    DenB c hm n sc nm (.Compare e₁ [op] [e₂] pos) (fun Γ => bindR (f Γ) fun a => bindR (g Γ) fun b => bindR (F [a.1, b.1]) fun d => (truthD d.1).map .ok) := by
  intro A l env Γ vf s r Q E hsc hR hRd hf hQ hE
  obtain ⟨m, hn⟩ := hRd.ns
  refine wpAny_isTrue_Compare1 (h1.run hsc hR hRd hf (fun a la _ hf va fa s₁ st₁ ra ta lva hR₁ hRd₁ => ?_) hE) hmk
  obtain ⟨m₁, hn₁⟩ := hRd₁.ns
  refine h2.run hsc hR₁ hRd₁ hf (fun b lb _ hf vb fb s₂ st₂ rb tb lvb hR₂ hRd₂ => ?_) (fun x k s' e fl => hE x k s' e (fl.back st₁ hn))
  obtain ⟨m₂, hn₂⟩ := hRd₂.ns
  rcases bindR_some hf with ⟨⟨d, lv⟩, h5, h6⟩ | ⟨k, h5, rfl⟩
  · refine ho A l env.locals m₂ s₂ [va, vb] [a, b] (fa ++ fb) _ _ E hR₂ hn₂ hRd₂.nb hRd₂.bs (Rps.two (st₂.kp.rp hn₁ ra) rb) h5 (fun v d' lv' fp s₃ e st₃ rp tr lvl => ?_) (fun x k s' e fl => by cases e)
    cases e
    obtain ⟨bb, hb, rfl⟩ := Option.map_eq_some_iff.mp h6
    exact truthy_D st₃.bs rp hb fun s' st => hQ _ _ rfl ((st₁.trans st₂).trans (st₃.trans st))
  · exact ho A l env.locals m₂ s₂ [va, vb] [a, b] (fa ++ fb) _ _ E hR₂ hn₂ hRd₂.nb hRd₂.bs (Rps.two (st₂.kp.rp hn₁ ra) rb) h5 (fun v d' lv' fp s₃ e => by cases e) (fun x k' s' e fl => by cases e; exact hE x k s' rfl ((fl.back st₂ hn₁).back st₁ hn))

noncomputable def DenL (c : Cx) (hm : Bool) (n : Nat) (sc : Scope) (nm : List Str) (op : BoolOp) (es : List Expr) (f : G → Option (R Bool)) : Prop :=
  ∀ (A : Around) (l : List Env) (env : Env) (Γ : G) (vf : Nat → Value × List Addr) (s : Shared) (r : R Bool) (Q : Bool → Shared → Prop) (E : Value → Shared → Prop),
    env.scope = sc → Room c hm n A l s.heap → Rd c env nm Γ vf s → f Γ = some r →
    (∀ b s', r = .ok b → St c env.locals s s' → Q b s') →
    (∀ x k s', r = .exc k → Fly c env.locals l s x k s' → E x s') →
    wpAny (model c.prog c.w) A (allTrue op es env) Q E s
theorem denL_and_nil : DenL c hm n sc nm .And [] (fun _ => some (.ok true)) := by
  intro A l env Γ vf s r Q E hsc hR hRd hf hQ hE
  obtain rfl := Option.some.inj hf
  exact wpAny_allTrue_And_nil (hQ _ _ rfl (St.refl hRd.bs))
theorem denL_or_nil : DenL c hm n sc nm .Or [] (fun _ => some (.ok false)) := by
  intro A l env Γ vf s r Q E hsc hR hRd hf hQ hE
  obtain rfl := Option.some.inj hf
  exact wpAny_allTrue_Or_nil (hQ _ _ rfl (St.refl hRd.bs))
theorem denL_and {e : Expr} {es : List Expr} {f g : G → Option (R Bool)} (h1 : DenB c hm n sc nm e f) (h2 : DenL c hm n sc nm .And es g) :
    DenL c hm n sc nm .And (e :: es) (fun Γ => bindR (f Γ) fun b => if b then g Γ else some (.ok false)) := by
  intro A l env Γ vf s r Q E hsc hR hRd hf hQ hE
  obtain ⟨m, hn⟩ := hRd.ns
  refine wpAny_allTrue_And_cons (h1.run hsc hR hRd hf (fun b _ hf s' st hR' hRd' => ?_) hE)
  cases b with
  | true => exact h2 A l env Γ vf s' r Q E hsc hR' hRd' hf (fun b s'' e st' => hQ b s'' e (st.trans st')) fun x k s'' e fl => hE x k s'' e (fl.back st hn)
  | false => obtain rfl := Option.some.inj hf; exact hQ _ _ rfl st
theorem denL_or {e : Expr} {es : List Expr} {f g : G → Option (R Bool)} (h1 : DenB c hm n sc nm e f) (h2 : DenL c hm n sc nm .Or es g) :
    DenL c hm n sc nm .Or (e :: es) (fun Γ => bindR (f Γ) fun b => if b then some (.ok true) else g Γ) := by
  intro A l env Γ vf s r Q E hsc hR hRd hf hQ hE
  obtain ⟨m, hn⟩ := hRd.ns
  refine wpAny_allTrue_Or_cons (h1.run hsc hR hRd hf (fun b _ hf s' st hR' hRd' => ?_) hE)
  cases b with
  | false => exact h2 A l env Γ vf s' r Q E hsc hR' hRd' hf (fun b s'' e st' => hQ b s'' e (st.trans st')) fun x k s'' e fl => hE x k s'' e (fl.back st hn)
  | true => obtain rfl := Option.some.inj hf; exact hQ _ _ rfl st
theorem denB_bool {op : BoolOp} {es : List Expr} {pos : Pos} {f : G → Option (R Bool)} (h : DenL c hm n sc nm op es f) : DenB c hm n sc nm (.BoolOp op es pos) f := by
  intro A l env Γ vf s r Q E hsc hR hRd hf hQ hE
  exact wpAny_isTrue_BoolOp (h A l env Γ vf s r Q E hsc hR hRd hf hQ hE)
-- and, or, as values
noncomputable def andF (a : D × Nat) (g : Option (R (D × Nat))) : Option (R (D × Nat)) := match truthD a.1 with | some true => g | some false => some (.ok a) | none => none
noncomputable def orF (a : D × Nat) (g : Option (R (D × Nat))) : Option (R (D × Nat)) := match truthD a.1 with | some false => g | some true => some (.ok a) | none => none
theorem den_one {op : BoolOp} {e : Expr} {pos : Pos} {o : List Nat} {f : G → Option (R (D × Nat))} (h : Den c hm n sc nm e o f) : Den c hm n sc nm (.BoolOp op [e] pos) o f := by
  intro A l env Γ vf s r Q E hsc hR hRd hf hQ hE
  exact BoolOp_one (h A l env Γ vf s r Q E hsc hR hRd hf hQ hE)
theorem den_and {e₁ e₂ : Expr} {rest : List Expr} {pos : Pos} {o1 o2 : List Nat} {f g : G → Option (R (D × Nat))}
    (h1 : Den c hm n sc nm e₁ o1 f) (h2 : Den c hm n sc nm (.BoolOp .And (e₂ :: rest) pos) o2 g) :
    Den c hm n sc nm (.BoolOp .And (e₁ :: e₂ :: rest) pos) (o1 ++ o2) (fun Γ => bindR (f Γ) fun a => andF a (g Γ)) := by
  intro A l env Γ vf s r Q E hsc hR hRd hf hQ hE
  obtain ⟨m, hn⟩ := hRd.ns
  refine BoolOp_and (h1.run hsc hR hRd hf (fun a la _ hf va fa s₁ st₁ ra ta lva hR₁ hRd₁ => ?_) hE)
  obtain ⟨m₁, hn₁⟩ := hRd₁.ns
  unfold andF at hf
  dsimp only at hf
  split at hf
  · rename_i hb
    refine truthy_D (L := env.locals) hRd₁.bs ra hb fun s₂ st₂ => ?_
    have st := st₁.trans st₂
    exact h2 A l env Γ vf s₂ r Q E hsc (hR.keep st.kp hn) (hRd.keep st) hf (fun v d lv fp s' e st' rp tr lvl => hQ v d lv fp s' e (st.trans st') rp (tr.back fun x hx => st.kp.gone hn hx).right (lvl.back fun x hx => st.kp.gone hn hx))
      fun x k s' e fl => hE x k s' e (fl.back st hn)
  · rename_i hb
    obtain rfl := Option.some.inj hf
    exact truthy_D (L := env.locals) hRd₁.bs ra hb fun s₂ st₂ => hQ _ _ _ _ _ rfl (st₁.trans st₂) (st₂.kp.rp hn₁ ra) ta.left (lva.keep st₂.kp hn₁)
  · exact nos hf
-- global names
noncomputable def Glb (c : Cx) (x : Str) (v : Value) : Prop := c.mg x = some v ∨ (c.mg x = none ∧ c.mb x = some v)
theorem load_glb {env : Env} {x : Str} {v : Value} {pos : Pos} {A : Around} {s : Shared} {Q : Value → Shared → Prop} {E : Value → Shared → Prop} {Γ : G} {vf : Nat → Value × List Addr} (ok : c.Ok) (hRd : Rd c env nm Γ vf s)
    (hsc : env.scope = sc) (hk : sc.names.lookup x = some .globalImplicit) (hd : (x == ("__debug__" : Str)) = false) (g : Glb c x v) (h : Q v s) : wpAny (model c.prog c.w) A (eval (.Name x pos) env) Q E s := by
  have hg : s.heap.Ns env.globals c.mg := by rw [hRd.gl]; exact ok.g.keeps hRd.bs.1
  have hb : s.heap.Ns env.builtins c.mb := by rw [hRd.bl]; exact ok.b.keeps hRd.bs.1
  refine Name_function_global hRd.fn (by unfold Env.kindOf; rw [hsc]; exact hk) ?_ hd
  rcases g with g | ⟨g1, g2⟩
  · exact loadGlobal_global hg g h
  · exact loadGlobal_builtin hg g1 hb g2 h

/-- a def of the text -/
noncomputable def Fn (c : Cx) (hm : Bool) (n : Nat) (f : Str) (F : List D → Option (R (D × Nat))) : Prop :=
  ∃ a o fd, c.mg f = some (.ref a) ∧ c.base.get? a = some o ∧ o.data = .func fd ∧ OpN c hm n (fun vs => call (.ref a) vs) F

theorem den_of_op {op : List Value → Sem Value} {F : List D → Option (R (D × Nat))} {es : List Expr} {o1 : List Nat} {f : G → Option (R (List D))} (ho : OpN c hm n op F) (h1 : DenA c hm n sc nm es o1 f)
    {A : Around} {l : List Env} {env : Env} {Γ : G} {vf : Nat → Value × List Addr} {s : Shared} {pos : Pos} {r : R (D × Nat)} {Q : Value → Shared → Prop} {E : Value → Shared → Prop}
    (hsc : env.scope = sc) (hR : Room c hm n A l s.heap) (hRd : Rd c env nm Γ vf s) (hf : bindR (f Γ) F = some r)
    (hQ : ∀ v d lv fp s', r = .ok (d, lv) → St c env.locals s s' → Rp c.mg s'.heap v d fp → Tr s.heap vf o1 fp → Lv s.heap s'.heap lv fp → Q v s')
    (hE : ∀ x k s', r = .exc k → Fly c env.locals l s x k s' → E x s') :
    wpAny (model c.prog c.w) A (spliced (backTo pos (starEach es env))) (fun vs s₁ => St c env.locals s s₁ ∧ wpAny (model c.prog c.w) A (op vs) Q E s₁) E s := by
  obtain ⟨m, hn⟩ := hRd.ns
  refine h1.run hsc hR hRd hf (fun ds _ hf vs fs s₁ st₁ rs ts hR₁ hRd₁ => ⟨st₁, ?_⟩) hE
  obtain ⟨m₁, hn₁⟩ := hRd₁.ns
  refine ho A l env.locals m₁ s₁ vs ds fs r Q E hR₁ hn₁ hRd₁.nb hRd₁.bs rs hf (fun v d lv fp s₂ e st₂ rp tr lvl => ?_) (fun x k s' e fl => hE x k s' e (fl.back st₁ hn))
  refine hQ v d lv fp s₂ e (st₁.trans st₂) rp (fun x hx => ?_) (lvl.back fun x hx => st₁.kp.gone hn hx)
  rcases tr x hx with h | h
  · exact .inl (st₁.kp.gone hn h)
  · exact ts x h

theorem den_call {f : Str} {F : List D → Option (R (D × Nat))} {e : Expr} {rest : List Expr} {np pos : Pos} {o1 : List Nat} {g : G → Option (R (List D))} (ok : c.Ok) (hf : Fn c hm n f F)
    (h1 : DenA c hm n sc nm (e :: rest) o1 g) (hk : sc.names.lookup f = some .globalImplicit := by kernel_rfl) (hd : (f == ("__debug__" : Str)) = false := by kernel_rfl) (hs : NotStar e := by intro _ _; rfl) :
    Den c hm n sc nm (.Call (.Name f np) (e :: rest) [] pos) o1 (fun Γ => bindR (g Γ) F) := by
  intro A l env Γ vf s r Q E hsc hR hRd hf' hQ hE
  obtain ⟨a, o, fd, h2, h3, h4, ho⟩ := hf
  refine Call_ (load_glb ok hRd hsc hk hd (.inl h2) ?_) (by rfl)
  refine callWith_def (o := o) (fd := fd) h4 (wpAny_mono (den_of_op ho h1 hsc hR hRd hf' hQ hE) (fun vs s₁ h => ⟨h.1.bs.1 a o h3, h.2⟩) fun _ _ x => x) (hs _ _)

noncomputable def NoStars (es : List Expr) : Prop := ∀ env pos, (backTo pos (starEach es env)).any (·.1) = false
theorem den_bi {x : Str} {id : String} {F : List D → Option (R (D × Nat))} {e : Expr} {rest : List Expr} {np pos : Pos} {o1 : List Nat} {g : G → Option (R (List D))} (ok : c.Ok) (hg : Glb c x (.builtin id))
    (ho : OpN c hm n (fun vs => call (.builtin id) vs) F) (h1 : DenA c hm n sc nm (e :: rest) o1 g) (hk : sc.names.lookup x = some .globalImplicit := by kernel_rfl) (hd : (x == ("__debug__" : Str)) = false := by kernel_rfl)
    (hs : NotStar e := by intro _ _; rfl) (hp : NoStars rest := by intro _ _; rfl) :
    Den c hm n sc nm (.Call (.Name x np) (e :: rest) [] pos) o1 (fun Γ => bindR (g Γ) F) := by
  intro A l env Γ vf s r Q E hsc hR hRd hf' hQ hE
  refine Call_ (load_glb ok hRd hsc hk hd hg ?_) (by rfl)
  exact PyProof.Rows.callWith_builtin1 (wpAny_mono (den_of_op ho h1 hsc hR hRd hf' hQ hE) (fun vs s₁ h => h.2) fun _ _ x => x) (hs _ _) (hp _ _)
theorem den_ty {x : Str} {T : String} {F : List D → Option (R (D × Nat))} {e : Expr} {rest : List Expr} {np pos : Pos} {o1 : List Nat} {g : G → Option (R (List D))} (ok : c.Ok) (hg : Glb c x (.type T))
    (ho : OpN c hm n (fun vs => call (.type T) vs) F) (h1 : DenA c hm n sc nm (e :: rest) o1 g) (hk : sc.names.lookup x = some .globalImplicit := by kernel_rfl) (hd : (x == ("__debug__" : Str)) = false := by kernel_rfl)
    (hs : NotStar e := by intro _ _; rfl) (hp : NoStars rest := by intro _ _; rfl) :
    Den c hm n sc nm (.Call (.Name x np) (e :: rest) [] pos) o1 (fun Γ => bindR (g Γ) F) := by
  intro A l env Γ vf s r Q E hsc hR hRd hf' hQ hE
  refine Call_ (load_glb ok hRd hsc hk hd hg ?_) (by rfl)
  exact PyProof.Rows.callWith_type1 (wpAny_mono (den_of_op ho h1 hsc hR hRd hf' hQ hE) (fun vs s₁ h => h.2) fun _ _ x => x) (hs _ _) (hp _ _)

-- an item
end
end Mine
namespace Mine
open PySem PySem.Calls PyProof.Rows

-- the library's rules over frames, for every object at once
noncomputable def allBut (L : Addr) (h : Heap) : List (Addr × Obj) := (List.range h.objs.size).filterMap fun b => if b = L then none else (h.get? b).map fun o => (b, o)
theorem mem_allBut {L b : Addr} {h : Heap} {o : Obj} (hb : b ≠ L) (e : h.get? b = some o) : (b, o) ∈ allBut L h := by
  unfold allBut
  rw [List.mem_filterMap]
  exact ⟨b, List.mem_range.mpr (Heap.lt_size e), by rw [if_neg hb, e]; rfl⟩
theorem none_empty (b : Addr) : ({} : Heap).get? b = none := Heap.get?_none_of_le (Nat.zero_le _)
theorem trickF {L : Addr} {h : Heap} {m : Str → Option Value} (hn : h.Ns L m) : Fr {} L h m := ⟨hn, fun b o e => absurd e (by rw [none_empty]; simp), Nat.zero_le _⟩
theorem trickN {L : Addr} {h : Heap} : News {} L h (allBut L h) := by
  intro p hp
  unfold allBut at hp
  obtain ⟨b, hb, e⟩ := List.mem_filterMap.mp hp
  split at e
  · exact nos e
  · rename_i hne
    obtain ⟨o, ho, e⟩ := Option.map_eq_some_iff.mp e
    subst e
    exact ⟨ho, hne, none_empty b⟩
theorem ns_unique {h : Heap} {L : Addr} {m m' : Str → Option Value} (a : h.Ns L m) (b : h.Ns L m') : m = m' := by
  obtain ⟨o, es, ep, h1, h2, h3, h4⟩ := a
  obtain ⟨o', es', ep', h1', h2', h3', h4'⟩ := b
  rw [h1] at h1'; obtain rfl := Option.some.inj h1'
  rw [h2] at h2'; cases h2'
  funext x; rw [← h4, ← h4']
theorem trickSt {c : Cx} {L : Addr} {s : Shared} {h' : Heap} {tk : Nat} {m : Str → Option Value} {extra : List (Addr × Obj)} (hn : s.heap.Ns L m) (nb : c.base.get? L = none) (hb : Gd c s)
    (F : Fr {} L h' m) (N : News {} L h' (extra ++ allBut L s.heap)) (ht : 1 ≤ tk) : St c L s { s with heap := h', toks := tk } := by
  have k : ∀ b o, b ≠ L → s.heap.get? b = some o → h'.get? b = some o := fun b o hb e => (N _ (List.mem_append_right _ (mem_allBut hb e))).1
  refine ⟨⟨_, _, rfl⟩, ⟨fun b o hb e _ => k b o hb e, fun b o hb e => ⟨o.slots, k b o hb e⟩, fun m' e => by rw [ns_unique e hn]; exact F.ns⟩, fun b o e => ?_, ht⟩
  exact k b o (fun q => by rw [q, nb] at e; exact nos e) (hb.1 b o e)

noncomputable def lim : Nat := 10000000
noncomputable def okI (i : Int) : Option (R (D × Nat)) := some (.ok (.int i, 2))
noncomputable def okB (b : Bool) : Option (R (D × Nat)) := some (.ok (.bool b, 2))
noncomputable def okS (s : List Nat) : Option (R (D × Nat)) := if s.length ≤ lim then some (.ok (.str s, 2)) else none
noncomputable def okL (xs : List D) : Option (R (D × Nat)) := if xs.length ≤ lim then some (.ok (.list xs, lvOf xs)) else none

theorem len_mk (s : List Nat) : (Str.mk s.toArray).length = s.length := by simp [Str.length]
theorem app_mk (a b : List Nat) : Str.mk a.toArray ++ Str.mk b.toArray = Str.mk (a ++ b).toArray := by
  have : (Str.mk a.toArray ++ Str.mk b.toArray).cps = a.toArray ++ b.toArray := rfl
  have h2 : (Str.mk a.toArray ++ Str.mk b.toArray) = Str.mk ((Str.mk a.toArray ++ Str.mk b.toArray).cps) := rfl
  rw [h2, this]
  simp

section
variable {c : Cx} {hm : Bool} {n : Nat}

-- the shape of two, of one
inductive Inv2 (X : Str → Option Value) (h : Heap) (a b : D) : List Value → List Addr → Prop
  | mk (va vb : Value) (fa fb : List Addr) (ra : Rp X h va a fa) (rb : Rp X h vb b fb) : Inv2 X h a b [va, vb] (fa ++ fb)
theorem Rps.inv2 {X : Str → Option Value} {h : Heap} {vs : List Value} {a b : D} {fp : List Addr} (r : Rps X h vs [a, b] fp) : Inv2 X h a b vs fp := by
  obtain ⟨ra, rs⟩ := r.invC
  obtain ⟨rb, rs'⟩ := rs.invC
  obtain ⟨rfl, rfl⟩ := rs'.inv
  rw [List.append_nil]
  exact .mk _ _ _ _ ra rb
theorem Rps.ints2 {X : Str → Option Value} {h : Heap} {vs : List Value} {a b : Int} {fp : List Addr} (r : Rps X h vs [.int a, .int b] fp) : ∃ t u, vs = [.int a t, .int b u] ∧ fp = [] := by
  obtain ⟨va, vb, fa, fb, ra, rb⟩ := r.inv2
  obtain ⟨t, rfl, rfl⟩ := ra.inv
  obtain ⟨u, rfl, rfl⟩ := rb.inv
  exact ⟨t, u, rfl, rfl⟩
theorem Rps.inv1 {X : Str → Option Value} {h : Heap} {vs : List Value} {a : D} {fp : List Addr} (r : Rps X h vs [a] fp) : ∃ va, vs = [va] ∧ Rp X h va a fp := by
  obtain ⟨ra, rs⟩ := r.invC
  obtain ⟨rfl, rfl⟩ := rs.inv
  rw [List.append_nil]
  exact ⟨_, rfl, ra⟩

noncomputable def addF : List D → Option (R (D × Nat))
  | [.int a, .int b] => okI (a + b)
  | [.str a, .str b] => okS (a ++ b)
  | [.list a, .list b] => okL (a ++ b)
  | _ => none
inductive LObj (X : Str → Option Value) (h : Heap) (xs : List D) : Value → List Addr → Prop
  | mk (a : Addr) (vs : Array Value) (f : List Addr) (hl : h.IsList a vs) (rs : Rps X h vs.toList xs f) : LObj X h xs (.ref a) (a :: f)
theorem listObj {X : Str → Option Value} {h : Heap} {v : Value} {xs : List D} {fp : List Addr} (r : Rp X h v (.list xs) fp) : LObj X h xs v fp := by
  obtain ⟨h1, h2, h3, h4⟩ := r.inv
  exact .mk _ _ _ ⟨_, h1, h2, _, h3⟩ h4
theorem listObjE {X : Str → Option Value} {h : Heap} {v : Value} {xs : List D} {fp : List Addr} (r : Rp X h v (.list xs) fp) : ∃ a vs f, v = .ref a ∧ fp = a :: f ∧ h.IsList a vs ∧ Rps X h vs.toList xs f := by
  obtain ⟨a, vs, f, h1, h2⟩ := listObj r
  exact ⟨a, vs, f, rfl, rfl, h1, h2⟩
theorem op_add : OpN c hm n (opBin .Add) addF := by
  intro A l L m s vs ds fp r Q E hR hn nb hb rs hf hQ hE
  unfold addF at hf
  split at hf
  · rename_i a b
    obtain ⟨t, u, rfl, rfl⟩ := rs.ints2
    obtain rfl := Option.some.inj hf
    exact add_int (hQ _ _ _ _ _ rfl (St.tok hb 1) (.int _ _) (fun _ h => nomatch h) (Lv.nil _ _))
  · rename_i a b
    obtain ⟨va, vb, fa, fb, ra, rb⟩ := rs.inv2
    obtain ⟨t, rfl, rfl⟩ := ra.inv
    obtain ⟨u, rfl, rfl⟩ := rb.inv
    unfold okS at hf
    split at hf
    · rename_i hlen
      obtain rfl := Option.some.inj hf
      refine wpAny_with_toks hb.2 (SB.add (fun t' tk ht => ?_) ?_)
      · rw [app_mk]
        exact hQ _ _ _ _ _ rfl (St.toks hb _ ht) (.str _ _) (fun _ h => nomatch h) (Lv.nil _ _)
      · rw [len_mk, len_mk, ← List.length_append]; unfold lim at hlen; unfold sizeLine; omega
    · exact nos hf
  · rename_i a b
    obtain ⟨va, vb, fa, fb, ra, rb⟩ := rs.inv2
    unfold okL at hf
    split at hf
    · rename_i hlen
      obtain rfl := Option.some.inj hf
      obtain ⟨x, vx, f, hx, rx⟩ := listObj ra
      obtain ⟨y, vy, g, hy, ry⟩ := listObj rb
      have hsz : vx.size + vy.size ≤ sizeLine := by
        have h1 := rx.length; have h2 := ry.length
        simp only [Array.length_toList] at h1 h2
        rw [h1, h2, ← List.length_append]; unfold lim at hlen; unfold sizeLine; omega
      refine add_arrays (trickF hn) trickN hx hy (fun h' F N => ?_) hsz
      have st := trickSt (c := c) (extra := [_]) hn nb hb F N hb.2
      have hnew := (N _ (List.mem_cons_self ..)).1
      refine hQ _ _ _ _ _ rfl st (.list hnew rfl rfl (by simpa using (st.kp.rps hn rx).append (st.kp.rps hn ry))) ?_ (lv_new (rx.append ry) (fresh_size _) (fresh_size _) ⟨_, _, _, hnew, rfl, rfl⟩)
      · intro q hq
        rcases List.mem_cons.mp hq with rfl | hq
        · exact .inl (fresh_size _)
        · refine .inr ?_
          rcases List.mem_append.mp hq with h | h
          · exact List.mem_append_left _ (List.mem_cons_of_mem _ h)
          · exact List.mem_append_right _ (List.mem_cons_of_mem _ h)
    · exact nos hf
  · exact nos hf
end
end Mine
namespace Mine
open PySem PySem.Calls PyProof.Rows PySem.SeqAt

mutual
noncomputable def D.cmpb : D → D → Bool
  | .int _, .int _ => true
  | .str _, .str _ => true
  | .list xs, .list ys => D.cmps xs ys
  | _, _ => false
noncomputable def D.cmps : List D → List D → Bool
  | x :: xs, y :: ys => D.cmpb x y && D.cmps xs ys
  | _, _ => true
end
theorem cmp_inv {a b : D} (h : D.cmpb a b = true) : (∃ x y, a = .int x ∧ b = .int y) ∨ (∃ x y, a = .str x ∧ b = .str y) ∨ (∃ xs ys, a = .list xs ∧ b = .list ys ∧ D.cmps xs ys = true) := by
  unfold D.cmpb at h
  split at h
  · exact .inl ⟨_, _, rfl, rfl⟩
  · exact .inr (.inl ⟨_, _, rfl, rfl⟩)
  · exact .inr (.inr ⟨_, _, rfl, rfl, h⟩)
  · cases h
mutual
noncomputable def D.dep : D → Nat
  | .list xs => D.deps xs + 1
  | .tup xs => D.deps xs + 1
  | _ => 0
noncomputable def D.deps : List D → Nat
  | [] => 0
  | x :: xs => max (D.dep x) (D.deps xs)
end
mutual
noncomputable def D.eqb : D → D → Bool
  | .int a, .int b => a == b
  | .str a, .str b => a == b
  | .list xs, .list ys => D.eqs xs ys
  | _, _ => false
noncomputable def D.eqs : List D → List D → Bool
  | [], [] => true
  | x :: xs, y :: ys => D.eqb x y && D.eqs xs ys
  | _, _ => false
end

theorem eqs_eq : ∀ xs ys : List D, D.eqs xs ys = ((List.range (min xs.length ys.length)).all (fun j => D.eqb (xs.getD j .none) (ys.getD j .none)) && xs.length == ys.length)
  | [], [] => by simp [D.eqs]
  | [], _ :: _ => by simp [D.eqs]
  | _ :: _, [] => by simp [D.eqs]
  | x :: xs, y :: ys => by
    have e1 : min (x :: xs).length (y :: ys).length = min xs.length ys.length + 1 := by simp only [List.length_cons]; omega
    have e2 : ((x :: xs).length == (y :: ys).length) = (xs.length == ys.length) := by simp
    rw [e1, e2, List.range_succ_eq_map, List.all_cons, List.all_map, D.eqs, eqs_eq xs ys, Bool.and_assoc]
    simp [Function.comp_def]
theorem eqs_same {xs ys : List D} (h : xs.length = ys.length) : D.eqs xs ys = (List.range xs.length).all (fun j => D.eqb (xs.getD j .none) (ys.getD j .none)) := by
  rw [eqs_eq, ← h, Nat.min_self]; simp
theorem eqs_other {xs ys : List D} (h : xs.length ≠ ys.length) : D.eqs xs ys = false := by
  rw [eqs_eq]; simp [h]

variable {X : Str → Option Value}
theorem Rp.int_inv {h : Heap} {v : Value} {x : Int} {f : List Addr} (r : Rp X h v (.int x) f) : ∃ t, v = .int x t := let ⟨t, e, _⟩ := r.inv; ⟨t, e⟩
theorem Rp.str_inv {h : Heap} {v : Value} {x : List Nat} {f : List Addr} (r : Rp X h v (.str x) f) : ∃ t, v = .str ⟨x.toArray⟩ t := let ⟨t, e, _⟩ := r.inv; ⟨t, e⟩
inductive LInv (X : Str → Option Value) (h : Heap) (xs : List D) : Value → Prop
  | mk (l : Addr) (vs : Array Value) (g : List Addr) (h1 : h.IsList l vs) (h2 : vs.size = xs.length) (h3 : Rps X h vs.toList xs g) : LInv X h xs (.ref l)
theorem Rp.list_inv {h : Heap} {v : Value} {xs : List D} {f : List Addr} (r : Rp X h v (.list xs) f) : LInv X h xs v := by
  obtain ⟨a, vs, f, h1, h2⟩ := listObj r
  exact ⟨a, vs, f, h1, by simpa using h2.length, h2⟩
-- a recursion over data
theorem D.both {P : D → Prop} {Ps : List D → Prop} (h1 : ∀ i, P (.int i)) (h2 : ∀ s, P (.str s)) (h3 : ∀ xs, Ps xs → P (.list xs)) (h4 : ∀ d, (∀ e, D.cmpb d e = false) → P d) (h5 : Ps []) (h6 : ∀ x xs, P x → Ps xs → Ps (x :: xs)) :
    (∀ d, P d) ∧ (∀ ds, Ps ds) :=
  ⟨fun d => D.rec (motive_1 := P) (motive_2 := Ps) (h4 _ fun e => by cases e <;> rfl) (fun _ => h4 _ fun e => by cases e <;> rfl) h1 h2 h3 (fun _ _ => h4 _ fun e => by cases e <;> rfl) (fun _ => h4 _ fun e => by cases e <;> rfl) h5 h6 d,
   fun d => D.rec_1 (motive_1 := P) (motive_2 := Ps) (h4 _ fun e => by cases e <;> rfl) (fun _ => h4 _ fun e => by cases e <;> rfl) h1 h2 h3 (fun _ _ => h4 _ fun e => by cases e <;> rfl) (fun _ => h4 _ fun e => by cases e <;> rfl) h5 h6 d⟩
theorem cmp_int {x : Int} {d : D} (h : D.cmpb (.int x) d = true) : ∃ y, d = .int y := by cases d <;> first | exact ⟨_, rfl⟩ | cases h
theorem cmp_str {x : List Nat} {d : D} (h : D.cmpb (.str x) d = true) : ∃ y, d = .str y := by cases d <;> first | exact ⟨_, rfl⟩ | cases h
theorem cmp_list {xs : List D} {d : D} (h : D.cmpb (.list xs) d = true) : ∃ ys, d = .list ys ∧ D.cmps xs ys = true := by cases d <;> first | exact ⟨_, rfl, h⟩ | cases h
theorem cmps_cons {x : D} {xs ys : List D} {y : D} (h : D.cmps (x :: xs) (y :: ys) = true) : D.cmpb x y = true ∧ D.cmps xs ys = true := by rw [D.cmps] at h; exact and_flat h
theorem rp_unique {h : Heap} : (∀ (d d' : D) (v : Value) (f f' : List Addr), D.cmpb d d' = true → Rp X h v d f → Rp X h v d' f' → D.eqb d d' = true) ∧
    (∀ (xs ys : List D) (vs : List Value) (f f' : List Addr), D.cmps xs ys = true → Rps X h vs xs f → Rps X h vs ys f' → D.eqs xs ys = true) := by
  refine D.both (fun x d' v f f' hc r r' => ?_) (fun s d' v f f' hc r r' => ?_) (fun xs ih d' v f f' hc r r' => ?_) (fun d hd d' v f f' hc => ?_) (fun ys vs f f' _ r r' => ?_) (fun x xs ih1 ih2 ys vs f f' hc r r' => ?_)
  · obtain ⟨y, rfl⟩ := cmp_int hc
    obtain ⟨t, rfl⟩ := r.int_inv; obtain ⟨u, hu⟩ := r'.int_inv; cases hu; exact beq_self_eq_true _
  · obtain ⟨y, rfl⟩ := cmp_str hc
    obtain ⟨t, rfl⟩ := r.str_inv; obtain ⟨u, hu⟩ := r'.str_inv
    injection hu with hu; injection hu with hu; rw [D.eqb, List.toArray_inj hu]; exact beq_self_eq_true _
  · obtain ⟨ys, rfl, hc⟩ := cmp_list hc
    obtain ⟨h1, _, h3, h4⟩ := r.inv
    obtain ⟨k1, _, k3, k4⟩ := r'.inv
    rw [h1] at k1; obtain rfl := Option.some.inj k1
    rw [h3] at k3; cases k3
    exact ih ys _ _ _ hc h4 k4
  · rw [hd] at hc; cases hc
  · obtain ⟨rfl, rfl⟩ := r.inv
    cases ys with
    | nil => rfl
    | cons y ys => cases r'.invC
  · obtain ⟨h1, h2⟩ := r.invC
    cases ys with
    | nil => cases r'.inv.1
    | cons y ys =>
      obtain ⟨k1, k2⟩ := r'.invC
      rw [D.eqs, ih1 y _ _ _ (cmps_cons hc).1 h1 k1, ih2 ys _ _ _ (cmps_cons hc).2 h2 k2]; rfl

theorem str_beq (a b : List Nat) : (Str.mk a.toArray == Str.mk b.toArray) = (a == b) := by
  rw [Bool.eq_iff_iff, beq_iff_eq, beq_iff_eq, Str.mk.injEq]
  exact ⟨fun h => List.toArray_inj h, fun h => by rw [h]⟩

noncomputable def EqP (X : Str → Option Value) (a : D) : Prop := ∀ (b : D) (A : Around) (s : Shared) (va vb : Value) (fa fb : List Addr), Rp X s.heap va a fa → Rp X s.heap vb b fb → D.cmpb a b = true → A.units + a.dep < cLine → EqAt A s va vb (D.eqb a b)
noncomputable def EqPs (X : Str → Option Value) (xs : List D) : Prop := ∀ (ys : List D) (A : Around) (s : Shared) (vs ws : List Value) (f g : List Addr), Rps X s.heap vs xs f → Rps X s.heap ws ys g → D.cmps xs ys = true → A.units + D.deps xs < cLine →
    ∀ j (h1 : j < vs.length) (h2 : j < ws.length), EqAt A s vs[j] ws[j] (D.eqb (xs.getD j .none) (ys.getD j .none))
theorem eqAt_both : (∀ a, EqP X a) ∧ (∀ xs, EqPs X xs) := by
  refine D.both (fun x b A s va vb fa fb ra rb hc hu => ?_) (fun x b A s va vb fa fb ra rb hc hu => ?_) (fun xs ih b A s va vb fa fb ra rb hc hu => ?_) (fun d hd b A s va vb fa fb ra rb hc hu => ?_)
    (fun ys A s vs ws f g r r' hc hu j h1 h2 => ?_) (fun x xs ih1 ih2 ys A s vs ws f g r r' hc hu j h1 h2 => ?_)
  · obtain ⟨y, rfl⟩ := cmp_int hc
    obtain ⟨t, rfl⟩ := ra.int_inv; obtain ⟨u, rfl⟩ := rb.int_inv
    exact EqAt.int_int x _ _ _
  · obtain ⟨y, rfl⟩ := cmp_str hc
    obtain ⟨t, rfl⟩ := ra.str_inv; obtain ⟨u, rfl⟩ := rb.str_inv
    rw [D.eqb, ← str_beq]
    exact EqAt.str_str _ _ _ _
  · obtain ⟨ys, rfl, hc'⟩ := cmp_list hc
    obtain ⟨l, vs, g, hl, n1, h4⟩ := ra.list_inv
    obtain ⟨l', vs', g', hl', n2, k4⟩ := rb.list_inv
    have hu' : A.units < cLine := Nat.lt_of_le_of_lt (Nat.le_add_right ..) hu
    rw [D.eqb]
    by_cases hll : l = l'
    · subst hll
      obtain ⟨_, h1, _, _, h3⟩ := hl
      obtain ⟨_, k1, _, _, k3⟩ := hl'
      rw [h1] at k1; obtain rfl := Option.some.inj k1
      rw [h3] at k3; cases k3
      rw [rp_unique.2 xs ys _ _ _ hc' h4 k4]
      exact EqAt.same _
    · by_cases hsz : vs.size = vs'.size
      · rw [eqs_same (n1.symm.trans (hsz.trans n2)), ← n1]
        exact EqAt.of_refs hll (RcAt.lists hl hl' hsz hu' fun j j1 j2 => ih ys A.in1 s vs.toList vs'.toList _ _ h4 k4 hc' (by simp only [D.dep] at hu; show A.units + 1 + _ < _; omega) j j1 j2)
      · rw [eqs_other (fun q => hsz (n1.trans (q.trans n2.symm)))]
        exact EqAt.of_refs hll (RcAt.lists_lengths hl hl' (by simpa using hsz) hu')
  · rw [hd] at hc; cases hc
  · obtain ⟨rfl, rfl⟩ := r.inv
    exact absurd h1 (Nat.not_lt_zero _)
  · obtain ⟨r1, r2⟩ := r.invC
    cases ys with
    | nil => obtain ⟨rfl, rfl⟩ := r'.inv; exact absurd h2 (Nat.not_lt_zero _)
    | cons y ys =>
      obtain ⟨r1', r2'⟩ := r'.invC
      simp only [D.deps] at hu
      cases j with
      | zero => exact ih1 y A s _ _ _ _ r1 r1' (cmps_cons hc).1 (by omega)
      | succ j => exact ih2 ys A s _ _ _ _ r2 r2' (cmps_cons hc).2 (by omega) j (Nat.lt_of_succ_lt_succ h1) (Nat.lt_of_succ_lt_succ h2)

section
variable {c : Cx} {hm : Bool} {n : Nat}
noncomputable def eqF : List D → Option (R (D × Nat))
  | [a, b] => if D.cmpb a b && decide (a.dep ≤ 100) then okB (D.eqb a b) else none
  | _ => none
noncomputable def neF : List D → Option (R (D × Nat))
  | [a, b] => if D.cmpb a b && decide (a.dep ≤ 100) then okB (!D.eqb a b) else none
  | _ => none

theorem op_eq : OpN c hm n (opCmp .Eq) eqF := by
  intro A l L m s vs ds fp r Q E hR hn nb hb rs hf hQ hE
  unfold eqF at hf
  split at hf
  · rename_i a b
    obtain ⟨va, vb, fa, fb, ra, rb⟩ := rs.inv2
    split at hf
    · rename_i hc
      rw [Bool.and_eq_true, decide_eq_true_eq] at hc
      obtain ⟨hc, hdep⟩ := hc
      obtain rfl := Option.some.inj hf
      have hu := hR.units
      have key : ∀ k, k = D.eqb a b → Q (.bool k) s := fun k e => e ▸ hQ _ _ _ _ _ rfl (St.refl hb) (.bool _) (fun _ h => nomatch h) (Lv.nil _ _)
      have hcl : cLine = 9900 := rfl
      rcases cmp_inv hc with ⟨x, y, rfl, rfl⟩ | ⟨x, y, rfl, rfl⟩ | ⟨xs, ys, rfl, rfl, hc'⟩
      · obtain ⟨t, rfl⟩ := ra.int_inv; obtain ⟨u, rfl⟩ := rb.int_inv
        exact eq_int (key _ rfl)
      · obtain ⟨t, rfl⟩ := ra.str_inv; obtain ⟨u, rfl⟩ := rb.str_inv
        exact PyProof.Rows.eq_str (key _ (str_beq x y))
      · obtain ⟨l, vs, g, hl, n1, h4⟩ := ra.list_inv
        obtain ⟨l', vs', g', hl', n2, k4⟩ := rb.list_inv
        by_cases hsz : vs.size = vs'.size
        · exact eq_listAt hl hl' hsz (by omega) (fun j j1 j2 => eqAt_both.2 xs ys A.in1 s vs.toList vs'.toList _ _ h4 k4 hc' (by simp only [D.dep] at hdep; show A.units + 1 + _ < _; omega) j j1 j2) (key _ (by rw [D.eqb, eqs_same (by omega : xs.length = ys.length), n1]))
        · exact eq_list_lengthsAt hl hl' (by simpa using hsz) (by omega) (key _ (by rw [D.eqb, eqs_other (by omega : xs.length ≠ ys.length)]))
    · exact nos hf
  · exact nos hf

theorem op_ne : OpN c hm n (opCmp .NotEq) neF := by
  intro A l L m s vs ds fp r Q E hR hn nb hb rs hf hQ hE
  unfold neF at hf
  split at hf
  · rename_i a b
    obtain ⟨va, vb, fa, fb, ra, rb⟩ := rs.inv2
    split at hf
    · rename_i hc
      rw [Bool.and_eq_true, decide_eq_true_eq] at hc
      obtain ⟨hc, hdep⟩ := hc
      obtain rfl := Option.some.inj hf
      have hu := hR.units
      have key : ∀ k, k = (!D.eqb a b) → Q (.bool k) s := fun k e => e ▸ hQ _ _ _ _ _ rfl (St.refl hb) (.bool _) (fun _ h => nomatch h) (Lv.nil _ _)
      have hcl : cLine = 9900 := rfl
      rcases cmp_inv hc with ⟨x, y, rfl, rfl⟩ | ⟨x, y, rfl, rfl⟩ | ⟨xs, ys, rfl, rfl, hc'⟩
      · obtain ⟨t, rfl⟩ := ra.int_inv; obtain ⟨u, rfl⟩ := rb.int_inv
        exact ne_int (key _ rfl)
      · obtain ⟨t, rfl⟩ := ra.str_inv; obtain ⟨u, rfl⟩ := rb.str_inv
        exact RcNeAt.str_str _ _ _ _ _ _ _ _ (key _ (congrArg _ (str_beq x y)))
      · obtain ⟨l, vs, g, hl, n1, h4⟩ := ra.list_inv
        obtain ⟨l', vs', g', hl', n2, k4⟩ := rb.list_inv
        by_cases hsz : vs.size = vs'.size
        · exact RcNeAt.lists hl hl' hsz (by omega) (fun j j1 j2 => eqAt_both.2 xs ys A.in1 s vs.toList vs'.toList _ _ h4 k4 hc' (by simp only [D.dep] at hdep; show A.units + 1 + _ < _; omega) j j1 j2) _ _ _ _ (key _ (by rw [D.eqb, eqs_same (by omega : xs.length = ys.length), n1]))
        · exact RcNeAt.lists_lengths hl hl' (by simpa using hsz) (by omega) _ _ _ _ (key _ (by rw [D.eqb, eqs_other (by omega : xs.length ≠ ys.length)]; rfl))
    · exact nos hf
  · exact nos hf
end
end Mine
namespace Mine
open PySem PySem.Calls PyProof.Rows PySem.SeqAt

section
variable {c : Cx} {hm : Bool} {n : Nat}

theorem flatQ {L : Addr} {s : Shared} {fp : List Addr} {d : D} {r : R (D × Nat)} {Q : Value → Shared → Prop} {v : Value} {s' : Shared}
    (hQ : ∀ v d lv fp' s', r = .ok (d, lv) → St c L s s' → Rp c.mg s'.heap v d fp' → (∀ a ∈ fp', s.heap.get? a = none ∨ a ∈ fp) → Lv s.heap s'.heap lv fp' → Q v s')
    (hr : r = .ok (d, 2)) (st : St c L s s') (rp : Rp c.mg s'.heap v d []) : Q v s' := hQ v d 2 [] s' hr st rp (fun _ h => nomatch h) (Lv.nil _ _)

/-- an operation upon two ints -/
theorem opI2 {op : List Value → Sem Value} {F : List D → Option (R (D × Nat))} (hF : ∀ ds r, F ds = some r → ∃ a b, ds = [.int a, .int b])
    (h : ∀ (A : Around) (s : Shared) (a b : Int) (t u : Tok) (r : R (D × Nat)) (Q E : Value → Shared → Prop), F [.int a, .int b] = some r → (∀ d, r = .ok (d, 2) → ∀ v k, Rp c.mg s.heap v d [] → Q v { s with toks := s.toks + k }) → wpAny (model c.prog c.w) A (op [.int a t, .int b u]) Q E s) : OpN c hm n op F := by
  intro A l L m s vs ds fp r Q E hR hn nb hb rs hf hQ hE
  obtain ⟨a, b, rfl⟩ := hF _ _ hf
  obtain ⟨t, u, rfl, rfl⟩ := rs.ints2
  exact h A s a b t u r Q E hf fun d e v k rp => flatQ hQ e (St.tok hb k) rp

noncomputable def subF : List D → Option (R (D × Nat))
  | [.int a, .int b] => okI (a - b)
  | _ => none
theorem op_sub : OpN c hm n (opBin .Sub) subF := by
  refine opI2 (fun ds r h => ?_) fun A s a b t u r Q E hf hQ => ?_
  · unfold subF at h
    split at h
    · exact ⟨_, _, rfl⟩
    · exact nos h
  · obtain rfl := Option.some.inj hf
    exact sub_int (hQ _ rfl _ 1 (.int _ _))

noncomputable def mulOk (a b : Int) : Bool := decide (a.natAbs < 2 ^ 64) || decide (b.natAbs < 2 ^ 64) || (decide (a.natAbs < 2 ^ 1000) && decide (b.natAbs < 2 ^ 1000))
theorem bits_le {a : Int} {k : Nat} (h : a.natAbs < 2 ^ k) : Builtin.Int.intBits a ≤ k := by
  unfold Builtin.Int.intBits
  split
  · omega
  · rename_i h0
    have h0' : a.natAbs ≠ 0 := by simpa using h0
    have := (Nat.log2_lt h0').mpr h
    omega
theorem mulOk_fits {a b : Int} (h : mulOk a b = true) : IntMulOk a b := by
  simp only [mulOk, Bool.or_eq_true, Bool.and_eq_true, decide_eq_true_eq] at h
  rcases h with (h | h) | ⟨h1, h2⟩
  · exact IntMulOk.of_left (bits_le h)
  · exact IntMulOk.of_right (bits_le h)
  · refine IntMulOk.of_bits ?_ ?_
    · have := bits_le h1; omega
    · have := bits_le h2; omega
noncomputable def repL {α : Type} (xs : List α) (k : Int) : List α := (List.replicate k.toNat xs).flatten
noncomputable def D.leaf : D → Bool
  | .none | .bool _ | .int _ | .str _ => true
  | _ => false
theorem Rp.leaf_carried {X : Str → Option Value} {h : Heap} {v : Value} {d : D} {f : List Addr} (r : Rp X h v d f) (hl : d.leaf = true) : Carried v (D.py d) ∧ f = [] := by
  have q := r.inv
  cases d with
  | none => obtain ⟨rfl, rfl⟩ := q; exact ⟨.none, rfl⟩
  | bool b => obtain ⟨rfl, rfl⟩ := q; exact ⟨.bool b, rfl⟩
  | int i => obtain ⟨t, rfl, rfl⟩ := q; exact ⟨.int i t, rfl⟩
  | str s => obtain ⟨t, rfl, rfl⟩ := q; exact ⟨.str _ t, rfl⟩
  | _ => cases hl
theorem Rps.carried {X : Str → Option Value} {h : Heap} {vs : List Value} {xs : List D} {f : List Addr} (r : Rps X h vs xs f) : xs.all D.leaf = true → CarriedAll vs (D.pys xs) ∧ f = [] :=
  r.ind (Ps := fun vs xs f => xs.all D.leaf = true → CarriedAll vs (D.pys xs) ∧ f = []) (fun _ => ⟨.nil, rfl⟩) fun r _ ih hl => by
    have q := and_flat hl
    obtain ⟨h1, rfl⟩ := r.leaf_carried q.1
    obtain ⟨h2, rfl⟩ := ih q.2
    exact ⟨.cons h1 h2, rfl⟩
noncomputable def mulF : List D → Option (R (D × Nat))
  | [.int a, .int b] => if mulOk a b then okI (a * b) else none
  | [.str s, .int k] => if k < 2 ^ 60 ∧ -(2 ^ 60) < k ∧ s.length * k.toNat ≤ lim then some (.ok (.str (repL s k), 2)) else none
  | [.list xs, .int k] => if (k < 2 ^ 60 ∧ -(2 ^ 60) < k ∧ xs.length * k.toNat ≤ lim) ∧ xs.all D.leaf = true then some (.ok (.list (repL xs k), 0)) else none
  | _ => none
theorem foldl_app (s : List Nat) : ∀ (k : Nat) (acc : Array Nat), (List.replicate k s.toArray).foldl (· ++ ·) acc = acc ++ ((List.replicate k s).flatten).toArray
  | 0, acc => by simp
  | k + 1, acc => by rw [List.replicate_succ, List.foldl_cons, foldl_app s k, List.replicate_succ]; simp
theorem txt_mul (s : List Nat) (k : Int) : Txt.mul (Str.mk s.toArray) k = Str.mk (repL s k).toArray := by
  unfold Txt.mul repL
  split
  · have : k.toNat = 0 := by omega
    rw [this]; rfl
  · split
    · rename_i h1 h2
      simp only [Bool.or_eq_true, beq_iff_eq, len_mk] at h2
      rcases h2 with h2 | h2
      · subst h2; simp
      · have : s = [] := List.eq_nil_of_length_eq_zero h2
        subst this
        have : ∀ j : Nat, (List.replicate j ([] : List Nat)).flatten = [] := fun j => by induction j with | zero => rfl | succ j ih => simp [List.replicate_succ, ih]
        rw [this]
    · rw [foldl_app]; simp
theorem Rps.rep {X : Str → Option Value} {h : Heap} {vs : List Value} {xs : List D} (r : Rps X h vs xs []) : ∀ k : Nat, Rps X h (List.replicate k vs).flatten (List.replicate k xs).flatten []
  | 0 => .nil
  | k + 1 => by
    rw [List.replicate_succ, List.replicate_succ, List.flatten_cons, List.flatten_cons]
    exact Rps.append (f := []) (g := []) r (Rps.rep r k)
theorem op_mul : OpN c hm n (opBin .Mult) mulF := by
  intro A l L m s vs ds fp r Q E hR hn nb hb rs hf hQ hE
  unfold mulF at hf
  split at hf
  · obtain ⟨t, u, rfl, rfl⟩ := rs.ints2
    split at hf
    · rename_i h1
      obtain rfl := Option.some.inj hf
      exact mul_int (flatQ hQ rfl (St.tok hb 1) (.int _ _)) (mulOk_fits h1)
    · exact nos hf
  · rename_i x k
    obtain ⟨va, vb, fa, fb, ra, rb⟩ := rs.inv2
    obtain ⟨t0, rfl, rfl⟩ := ra.inv
    obtain ⟨u0, rfl, rfl⟩ := rb.inv
    split at hf
    · rename_i h1
      obtain rfl := Option.some.inj hf
      obtain ⟨h1, h2, h3⟩ := h1
      unfold lim at h3
      refine wpAny_with_toks hb.2 (SB.mul (n := k) ⟨?_, fun h4 h5 => ?_, fun h4 h5 => ?_⟩ fun t' tk ht => ?_)
      · simp only [Bool.or_eq_false_iff, decide_eq_false_iff_not]; omega
      · rw [len_mk]
        have hle : x.length ≤ x.length * k.toNat := Nat.le_mul_of_pos_right _ (by omega)
        have : (2 ^ 63 - 1 : Int) / k ≥ 10000000 := by
          refine (Int.le_ediv_iff_mul_le (by omega)).mpr ?_
          have : (10000000 : Int) * k ≤ 10000000 * 1152921504606846976 := Int.mul_le_mul_of_nonneg_left (by omega) (by omega)
          have h6 : x.length * k.toNat ≤ 10000000 := h3
          by_cases hx : x.length = 0
          · simp [len_mk, hx] at h5
          · have : k.toNat ≤ x.length * k.toNat := Nat.le_mul_of_pos_left _ (by omega)
            omega
        omega
      · rw [len_mk]; unfold Builtin.Str.tooLong sizeLine; simp; omega
      · rw [txt_mul]
        exact flatQ hQ rfl (St.toks hb _ ht) (.str _ _)
    · exact nos hf
  · rename_i xs k
    obtain ⟨va, vb, fa, fb, ra, rb⟩ := rs.inv2
    obtain ⟨u0, rfl, rfl⟩ := rb.inv
    split at hf
    · rename_i h1
      obtain rfl := Option.some.inj hf
      obtain ⟨⟨h1, h2, h3⟩, h4⟩ := h1
      obtain ⟨x, vx, f, hx, rx⟩ := listObj ra
      obtain ⟨hca, hf0⟩ := rx.carried h4
      subst hf0
      have hsz : vx.toList.length * k.toNat ≤ 2 ^ 24 := by rw [rx.length]; unfold lim at h3; omega
      refine mul_list_is (vs := vx.toList) (trickF hn) trickN hx hca (by omega) (by omega) hsz (fun h' F N hfr hl hc' => ?_)
      have st := trickSt (c := c) (extra := []) hn nb hb F N hb.2
      obtain ⟨o, ho, hcl, k', hd⟩ := hl
      refine hQ _ _ _ _ _ rfl st (.list ho hcl hd (by simpa [repL] using (st.kp.rps hn rx).rep k.toNat)) ?_ (Lv.zero _ _)
      intro q hq
      rcases List.mem_cons.mp hq with rfl | hq
      · exact .inl (fresh_size _)
      · cases hq
    · exact nos hf
  · exact nos hf

noncomputable def divF : List D → Option (R (D × Nat))
  | [.int a, .int b] => if b ≠ 0 ∧ b.natAbs < 1073741824 then okI (a.fdiv b) else none
  | _ => none
theorem op_div : OpN c hm n (opBin .FloorDiv) divF := by
  refine opI2 (fun ds r h => ?_) fun A s a b t u r Q E hf hQ => ?_
  · unfold divF at h
    split at h
    · exact ⟨_, _, rfl⟩
    · exact nos h
  · by_cases h1 : b ≠ 0 ∧ b.natAbs < 1073741824
    · rw [show divF [.int a, .int b] = okI (a.fdiv b) from if_pos h1] at hf
      obtain rfl := Option.some.inj hf
      exact floordiv_int h1.1 (hQ _ rfl _ 1 (.int _ _)) (.inl (PyProof.noPylong_small h1.2))
    · rw [show divF [.int a, .int b] = none from if_neg h1] at hf
      exact nos hf
noncomputable def modF : List D → Option (R (D × Nat))
  | [.int a, .int b] => if b ≠ 0 then okI (a.fmod b) else none
  | _ => none
theorem op_mod : OpN c hm n (opBin .Mod) modF := by
  refine opI2 (fun ds r h => ?_) fun A s a b t u r Q E hf hQ => ?_
  · unfold modF at h
    split at h
    · exact ⟨_, _, rfl⟩
    · exact nos h
  · by_cases h1 : b ≠ 0
    · rw [show modF [.int a, .int b] = okI (a.fmod b) from if_pos h1] at hf
      obtain rfl := Option.some.inj hf
      exact mod_int' h1 (hQ _ rfl _ 1 (.int _ _))
    · rw [show modF [.int a, .int b] = none from if_neg h1] at hf
      exact nos hf
noncomputable def powF : List D → Option (R (D × Nat))
  | [.int a, .int b] => if 0 ≤ b ∧ b ≤ 1000 ∧ a.natAbs < 2 ^ 1000 then okI (a ^ b.toNat) else none
  | _ => none
theorem op_pow : OpN c hm n (opBin .Pow) powF := by
  refine opI2 (fun ds r h => ?_) fun A s a b t u r Q E hf hQ => ?_
  · unfold powF at h
    split at h
    · exact ⟨_, _, rfl⟩
    · exact nos h
  · by_cases h1 : 0 ≤ b ∧ b ≤ 1000 ∧ a.natAbs < 2 ^ 1000
    · rw [show powF [.int a, .int b] = okI (a ^ b.toNat) from if_pos h1] at hf
      obtain rfl := Option.some.inj hf
      refine pow_int h1.1 ?_ (hQ _ rfl _ 1 (.int _ _))
      have h2 := bits_le h1.2.2
      have : (Builtin.Int.intBits a : Int) * b ≤ 1000 * 1000 := Int.mul_le_mul (by omega) (by omega) h1.1 (by omega)
      omega
    · rw [show powF [.int a, .int b] = none from if_neg h1] at hf
      exact nos hf
noncomputable def negF : List D → Option (R (D × Nat))
  | [.int a] => okI (-a)
  | _ => none
theorem op_neg : OpN c hm n (opUn .USub) negF := by
  intro A l L m s vs ds fp r Q E hR hn nb hb rs hf hQ hE
  unfold negF at hf
  split at hf
  · obtain ⟨va, rfl, ra⟩ := rs.inv1
    obtain ⟨t0, rfl, rfl⟩ := ra.inv
    obtain rfl := Option.some.inj hf
    exact PyProof.Rows.neg_int (flatQ hQ rfl (St.tok hb 1) (.int _ _))
  · exact nos hf
noncomputable def notF : List D → Option (R (D × Nat))
  | [a] => (truthD a).bind fun b => okB (!b)
  | _ => none
theorem op_not : OpN c hm n (opUn .Not) notF := by
  intro A l L m s vs ds fp r Q E hR hn nb hb rs hf hQ hE
  unfold notF at hf
  split at hf
  · obtain ⟨va, rfl, ra⟩ := rs.inv1
    obtain ⟨b, h1, h2⟩ := Option.bind_eq_some_iff.mp hf
    obtain rfl := Option.some.inj h2
    exact not_of (truthy_D hb ra h1 fun s' st => flatQ hQ rfl st (.bool _))
  · exact nos hf

noncomputable def ltF : List D → Option (R (D × Nat))
  | [.int a, .int b] => okB (decide (a < b))
  | _ => none
theorem op_lt : OpN c hm n (opCmp .Lt) ltF := by
  refine opI2 (fun ds r h => ?_) fun A s a b t u r Q E hf hQ => ?_
  · unfold ltF at h
    split at h
    · exact ⟨_, _, rfl⟩
    · exact nos h
  · obtain rfl := Option.some.inj hf
    exact lt_int (hQ _ rfl _ 0 (.bool _))
noncomputable def leF : List D → Option (R (D × Nat))
  | [.int a, .int b] => okB (decide (a ≤ b))
  | _ => none
theorem op_le : OpN c hm n (opCmp .LtE) leF := by
  refine opI2 (fun ds r h => ?_) fun A s a b t u r Q E hf hQ => ?_
  · unfold leF at h
    split at h
    · exact ⟨_, _, rfl⟩
    · exact nos h
  · obtain rfl := Option.some.inj hf
    exact PyProof.Rows.le_int (hQ _ rfl _ 0 (.bool _))
noncomputable def gtF : List D → Option (R (D × Nat))
  | [.int a, .int b] => okB (decide (b < a))
  | _ => none
theorem op_gt : OpN c hm n (opCmp .Gt) gtF := by
  refine opI2 (fun ds r h => ?_) fun A s a b t u r Q E hf hQ => ?_
  · unfold gtF at h
    split at h
    · exact ⟨_, _, rfl⟩
    · exact nos h
  · obtain rfl := Option.some.inj hf
    exact gt_int (hQ _ rfl _ 0 (.bool _))
noncomputable def geF : List D → Option (R (D × Nat))
  | [.int a, .int b] => okB (decide (b ≤ a))
  | _ => none
theorem op_ge : OpN c hm n (opCmp .GtE) geF := by
  refine opI2 (fun ds r h => ?_) fun A s a b t u r Q E hf hQ => ?_
  · unfold geF at h
    split at h
    · exact ⟨_, _, rfl⟩
    · exact nos h
  · obtain rfl := Option.some.inj hf
    exact PyProof.Rows.ge_int (hQ _ rfl _ 0 (.bool _))

noncomputable def isN : D → Bool
  | .none => true
  | _ => false
noncomputable def isD (a b : D) : Option Bool := if isN b then some (isN a) else none
noncomputable def isF : List D → Option (R (D × Nat))
  | [a, b] => (isD a b).bind okB
  | _ => none
noncomputable def isnF : List D → Option (R (D × Nat))
  | [a, b] => (isD a b).bind fun k => okB (!k)
  | _ => none
theorem isD_ok {h : Heap} {va vb : Value} {a b : D} {fa fb : List Addr} {k : Bool} (ra : Rp c.mg h va a fa) (rb : Rp c.mg h vb b fb) (hk : isD a b = some k) : plainIs va vb = true ∧ (va == vb) = k := by
  have qa := ra.inv
  have qb := rb.inv
  cases b with
  | none =>
    obtain rfl := Option.some.inj hk
    obtain ⟨rfl, rfl⟩ := qb
    cases a with
    | none => obtain ⟨rfl, rfl⟩ := qa; exact ⟨rfl, rfl⟩
    | bool _ => obtain ⟨rfl, rfl⟩ := qa; exact ⟨rfl, rfl⟩
    | int _ => obtain ⟨_, rfl, rfl⟩ := qa; exact ⟨rfl, rfl⟩
    | str _ => obtain ⟨_, rfl, rfl⟩ := qa; exact ⟨rfl, rfl⟩
    | list _ => obtain ⟨_, _, _, _⟩ := qa; exact ⟨rfl, rfl⟩
    | tup _ => obtain ⟨_, _, _, _⟩ := qa; exact ⟨rfl, rfl⟩
    | exc _ => obtain ⟨_, _, _, _⟩ := qa; exact ⟨rfl, rfl⟩
  | _ => exact nos hk
theorem op_isn : OpN c hm n (opCmp .IsNot) isnF := by
  intro A l L m s vs ds fp r Q E hR hn nb hb rs hf hQ hE
  unfold isnF at hf
  split at hf
  · obtain ⟨va, vb, fa, fb, ra, rb⟩ := rs.inv2
    obtain ⟨k, h1, h2⟩ := Option.bind_eq_some_iff.mp hf
    obtain rfl := Option.some.inj h2
    obtain ⟨h3, h4⟩ := isD_ok ra rb h1
    exact wpAny_isNot_plain h3 (by rw [h4]; exact flatQ hQ rfl (St.refl hb) (.bool _))
  · exact nos hf

end
end Mine
namespace Mine
open PySem PySem.Calls PyProof.Rows PySem.SeqAt

section
variable {c : Cx} {hm : Bool} {n : Nat} {sc : Scope} {nm : List Str}

-- an item
noncomputable def idxD (k : Nat) (i : Int) : Option Nat :=
  if k ≤ big then (if 0 ≤ i then (if i < k then some i.toNat else none) else if -(k : Int) ≤ i then some (i + k).toNat else none) else none
theorem idxD_ok {k j : Nat} {i : Int} (h : idxD k i = some j) : seqIndex? i k = some j ∧ -(2 ^ 63) ≤ i ∧ i < 2 ^ 63 ∧ j < k := by
  unfold idxD big at h
  unfold seqIndex?
  split at h
  · split at h
    · split at h
      · obtain rfl := Option.some.inj h
        refine ⟨?_, by omega, by omega, by omega⟩
        dsimp only
        rw [if_neg (show ¬ i < 0 by omega), if_pos (by simp; omega)]
      · exact nos h
    · split at h
      · obtain rfl := Option.some.inj h
        refine ⟨?_, by omega, by omega, by omega⟩
        dsimp only
        rw [if_pos (show i < 0 by omega), if_pos (by simp; omega)]
      · exact nos h
  · exact nos h
noncomputable def itemF : List D → Option (R (D × Nat))
  | [.list xs, .int i] => (idxD xs.length i).bind fun j => xs[j]?.map fun d => .ok (d, 0)
  | [.tup xs, .int i] => (idxD xs.length i).bind fun j => xs[j]?.map fun d => .ok (d, 0)
  | [.str s, .int i] => (idxD s.length i).bind fun j => s[j]?.map fun ch => .ok (.str [ch], 2)
  | _ => none

noncomputable def NotSlice (sl : Expr) : Prop := ∀ o i, subscripted sl false o i = operate [o, i] (getItem o i)

inductive ItemI (a b : D) (r : R (D × Nat)) : Prop
  | lst (xs : List D) (i : Int) (j : Nat) (d : D) (h1 : a = .list xs) (h2 : b = .int i) (h3 : idxD xs.length i = some j) (h4 : xs[j]? = some d) (h5 : r = .ok (d, 0)) : ItemI a b r
  | tup (xs : List D) (i : Int) (j : Nat) (d : D) (h1 : a = .tup xs) (h2 : b = .int i) (h3 : idxD xs.length i = some j) (h4 : xs[j]? = some d) (h5 : r = .ok (d, 0)) : ItemI a b r
  | str (xs : List Nat) (i : Int) (j ch : Nat) (h1 : a = .str xs) (h2 : b = .int i) (h3 : idxD xs.length i = some j) (h4 : xs[j]? = some ch) (h5 : r = .ok (.str [ch], 2)) : ItemI a b r
theorem bm_inv {α β : Type} {o : Option Nat} {f : Nat → Option α} {g : α → β} {r : β} (h : (o.bind fun j => (f j).map g) = some r) : ∃ j d, o = some j ∧ f j = some d ∧ r = g d := by
  obtain ⟨j, h1, h2⟩ := Option.bind_eq_some_iff.mp h
  obtain ⟨d, h3, h4⟩ := Option.map_eq_some_iff.mp h2
  exact ⟨j, d, h1, h3, h4.symm⟩
theorem itemF_inv {a b : D} {r : R (D × Nat)} (h : itemF [a, b] = some r) : ItemI a b r := by
  cases a with
  | list xs => cases b with
    | int i => obtain ⟨j, d, h1, h3, e⟩ := bm_inv h; exact .lst xs i j d rfl rfl h1 h3 e
    | _ => exact nos h
  | tup xs => cases b with
    | int i => obtain ⟨j, d, h1, h3, e⟩ := bm_inv h; exact .tup xs i j d rfl rfl h1 h3 e
    | _ => exact nos h
  | str xs => cases b with
    | int i => obtain ⟨j, d, h1, h3, e⟩ := bm_inv h; exact .str xs i j d rfl rfl h1 h3 e
    | _ => exact nos h
  | _ => exact nos h
theorem seq_split {i : Int} {k j : Nat} (h : seqIndex? i k = some j) : (i < 0 ∧ 0 ≤ i + k ∧ j = (i + k).toNat) ∨ (0 ≤ i ∧ j = i.toNat) := by
  unfold seqIndex? at h
  by_cases hi : i < 0
  · rw [if_pos hi] at h
    dsimp only at h
    split at h
    · rename_i hc
      simp only [Bool.and_eq_true, decide_eq_true_eq] at hc
      obtain rfl := Option.some.inj h
      exact .inl ⟨hi, by omega, rfl⟩
    · exact nos h
  · rw [if_neg hi] at h
    dsimp only at h
    split at h
    · obtain rfl := Option.some.inj h; exact .inr ⟨by omega, rfl⟩
    · exact nos h
theorem tail_item {value slice : Expr} {A : Around} {L : Addr} {s : Shared} {vo vi : Value} {a b : D} {fa fb : List Addr} {r : R (D × Nat)} {Q : Value → Shared → Prop} {E : Value → Shared → Prop} (hb : Gd c s) (hsl : NotSlice slice)
    (ra : Rp c.mg s.heap vo a fa) (rb : Rp c.mg s.heap vi b fb) (hf : itemF [a, b] = some r)
    (hQ : ∀ v d lv fp' s', r = .ok (d, lv) → St c L s s' → Rp c.mg s'.heap v d fp' → (∀ x ∈ fp', s.heap.get? x = none ∨ x ∈ fa) → Lv s.heap s'.heap lv fp' → Q v s') :
    wpAny (model c.prog c.w) A (subscriptTail value slice vo vi) Q E s := by
  rcases itemF_inv hf with ⟨xs, i, j, d, rfl, rfl, h1, h3, rfl⟩ | ⟨xs, i, j, d, rfl, rfl, h1, h3, rfl⟩ | ⟨xs, i, j, ch, rfl, rfl, h1, h3, rfl⟩
  · clear hf
    obtain ⟨t, rfl, rfl⟩ := rb.inv
    obtain ⟨h4, h5, h6, h7⟩ := idxD_ok h1
    obtain ⟨x, vx, f, hx, rx⟩ := listObj ra
    obtain ⟨v, g, h8, h9, h10⟩ := rx.get h3
    have hlen : vx.size = xs.length := by simpa using rx.length
    have hv : vx[j]? = some v := by simpa using h8
    have hq := hQ v d 0 g s rfl (St.refl hb) h9 (fun y hy => .inr (List.mem_cons_of_mem _ (h10 y hy))) (Lv.zero _ _)
    refine tail_any hx.typeIs slot_list_getitem.lookup ?_ (hsl _ _)
    rcases seq_split h4 with ⟨hi, h11, e⟩ | ⟨hi, e⟩
    · exact wpAny_getItem_list_neg hx hi (by omega) h5 (by rw [hlen, ← e]; exact hv) hq
    · exact wpAny_getItem_list hx hi h6 (e ▸ hv) hq
  · clear hf
    obtain ⟨t, rfl, rfl⟩ := rb.inv
    obtain ⟨g1, g2, g3, g4⟩ := ra.inv
    obtain ⟨h4, h5, h6, h7⟩ := idxD_ok h1
    obtain ⟨v, g, h8, h9, h10⟩ := g4.get h3
    have hlen := g4.length
    rw [Array.length_toList] at hlen
    refine tail_any ⟨_, g1, g2⟩ PyProof.Rows.slot_tuple_getitem.lookup ?_ (hsl _ _)
    refine PyProof.Rows.getItem_tuple (j := j) ⟨_, g1, g2, _, g3⟩ h5 h6 (by rw [hlen]; exact h4) (by simpa using h8) ?_
    exact hQ v d 0 g s rfl (St.refl hb) h9 (fun y hy => .inr (h10 y hy)) (Lv.zero _ _)
  · clear hf
    obtain ⟨u, rfl, rfl⟩ := rb.inv
    obtain ⟨t, rfl, rfl⟩ := ra.inv
    obtain ⟨h4, h5, h6, h7⟩ := idxD_ok h1
    have hch : Txt.charAt (Str.mk xs.toArray) i = some ch := by
      unfold Txt.charAt
      rw [len_mk, h4]
      simpa using h3
    refine tail_any (typeIs_str _ _ _) F.slot_str_getitem.lookup (SB.getItem ?_ (by rw [hch]; rfl) ?_) (hsl _ _)
    · unfold fitsSsize; simp; omega
    · unfold Txt.item
      rw [hch]
      exact hQ _ (.str [ch]) 2 [] _ rfl (St.tok hb 1) (Rp.str [ch] _) (fun _ h => nomatch h) (Lv.nil _ _)

theorem den_idx {e₁ e₂ : Expr} {pos : Pos} {o1 o2 : List Nat} {f g : G → Option (R (D × Nat))} (h1 : Den c hm n sc nm e₁ o1 f) (h2 : Den c hm n sc nm e₂ o2 g) (hsl : NotSlice e₂ := by intro _ _; rfl) :
    Den c hm n sc nm (.Subscript e₁ e₂ pos) (o1 ++ o2) (fun Γ => bindR (f Γ) fun a => bindR (g Γ) fun b => itemF [a.1, b.1]) := by
  intro A l env Γ vf s r Q E hsc hR hRd hf hQ hE
  obtain ⟨m, hn⟩ := hRd.ns
  refine Subscript_ (h1.run hsc hR hRd hf (fun a la _ hf va fa s₁ st₁ ra ta lva hR₁ hRd₁ => ?_) hE)
  obtain ⟨m₁, hn₁⟩ := hRd₁.ns
  refine h2.run hsc hR₁ hRd₁ hf (fun b lb _ hf vb fb s₂ st₂ rb tb lvb hR₂ hRd₂ => ?_) (fun x k s' e fl => hE x k s' e (fl.back st₁ hn))
  refine tail_item (L := env.locals) hRd₂.bs hsl (st₂.kp.rp hn₁ ra) rb hf fun v d lv fp s₃ e st₃ rp tr lvl => ?_
  have st := (st₁.trans st₂)
  refine hQ v d lv fp s₃ e (st.trans st₃) rp (fun x hx => ?_) (lvl.back fun x hx => st.kp.gone hn hx)
  rcases tr x hx with h | h
  · exact .inl (st.kp.gone hn h)
  · exact ta.left x h

-- a slice of a list
noncomputable def DenO (c : Cx) (hm : Bool) (n : Nat) (sc : Scope) (nm : List Str) (e : Option Expr) (f : G → Option (R (Option Int))) : Prop :=
  ∀ (A : Around) (l : List Env) (env : Env) (Γ : G) (vf : Nat → Value × List Addr) (s : Shared) (r : R (Option Int)) (Q : Value → Shared → Prop) (E : Value → Shared → Prop),
    env.scope = sc → Room c hm n A l s.heap → Rd c env nm Γ vf s → f Γ = some r →
    (∀ v i s', r = .ok i → St c env.locals s s' → IsPart v i → Q v s') →
    (∀ x k s', r = .exc k → Fly c env.locals l s x k s' → E x s') →
    wpAny (model c.prog c.w) A (evalPart e env) Q E s
theorem denO_none : DenO c hm n sc nm none (fun _ => some (.ok none)) := by
  intro A l env Γ vf s r Q E hsc hR hRd hf hQ hE
  obtain rfl := Option.some.inj hf
  exact wpAny_pure (hQ _ _ _ rfl (St.refl hRd.bs) .none)
noncomputable def asIntR : D × Nat → Option (R (Option Int))
  | (.int i, _) => some (.ok (some i))
  | _ => none
theorem denO_some {e : Expr} {o : List Nat} {f : G → Option (R (D × Nat))} (h : Den c hm n sc nm e o f) : DenO c hm n sc nm (some e) (fun Γ => bindR (f Γ) asIntR) := by
  intro A l env Γ vf s r Q E hsc hR hRd hf hQ hE
  show wpAny _ A (eval e env) Q E s
  refine h.run hsc hR hRd hf (fun a la _ hf va fa s₁ st₁ ra ta lva hR₁ hRd₁ => ?_) hE
  unfold asIntR at hf
  split at hf
  · rename_i e
    cases e
    obtain rfl := Option.some.inj hf
    obtain ⟨t, rfl, rfl⟩ := ra.inv
    exact hQ _ _ _ rfl st₁ (.int _ _)
  · exact nos hf
theorem DenO.run {β : Type} {e : Option Expr} {f : G → Option (R (Option Int))} (hd : DenO c hm n sc nm e f) {g : Option Int → Option (R β)} {r : R β}
    {A : Around} {l : List Env} {env : Env} {Γ : G} {vf : Nat → Value × List Addr} {s : Shared} {Q : Value → Shared → Prop} {E : Value → Shared → Prop}
    (hsc : env.scope = sc) (hR : Room c hm n A l s.heap) (hRd : Rd c env nm Γ vf s) (hx : bindR (f Γ) g = some r)
    (hok : ∀ i, f Γ = some (.ok i) → g i = some r → ∀ v s', St c env.locals s s' → IsPart v i → Room c hm n A l s'.heap → Rd c env nm Γ vf s' → Q v s')
    (hexc : ∀ x k s', r = .exc k → Fly c env.locals l s x k s' → E x s') : wpAny (model c.prog c.w) A (evalPart e env) Q E s := by
  obtain ⟨m, hn⟩ := hRd.ns
  rcases bindR_some hx with ⟨b, h1, h2⟩ | ⟨k, h1, rfl⟩
  · exact hd A l env Γ vf s _ Q E hsc hR hRd h1 (fun v i s' e st hp => by cases e; exact hok b h1 h2 v s' st hp (hR.keep st.kp hn) (hRd.keep st)) fun x k s' e => by cases e
  · exact hd A l env Γ vf s _ Q E hsc hR hRd h1 (fun v i s' e => by cases e) fun x k' s' e fl => by cases e; exact hexc x k s' rfl fl

noncomputable def sliceL {α : Type} (xs : List α) (lo hi : Option Int) : List α :=
  (xs.drop (lo.elim 0 (clipAt xs.length))).take (hi.elim xs.length (clipAt xs.length) - lo.elim 0 (clipAt xs.length))
noncomputable def sliceF (lo hi : Option Int) : D → Option (R (D × Nat))
  | .list xs => if xs.length ≤ lim then some (.ok (.list (sliceL xs lo hi), lvOf (sliceL xs lo hi))) else none
  | _ => none
theorem sliceF_inv {lo hi : Option Int} {a : D} {r : R (D × Nat)} (h : sliceF lo hi a = some r) : ∃ xs, xs.length ≤ lim ∧ a = .list xs ∧ r = .ok (.list (sliceL xs lo hi), lvOf (sliceL xs lo hi)) := by
  unfold sliceF at h
  split at h
  · split at h
    · obtain rfl := Option.some.inj h; exact ⟨_, by assumption, rfl, rfl⟩
    · exact nos h
  · exact nos h
theorem den_slice {e₁ : Expr} {lo hi : Option Expr} {p pos : Pos} {o1 : List Nat} {f : G → Option (R (D × Nat))} {g k : G → Option (R (Option Int))} (h1 : Den c hm n sc nm e₁ o1 f) (h2 : DenO c hm n sc nm lo g) (h3 : DenO c hm n sc nm hi k) :
    Den c hm n sc nm (.Subscript e₁ (.Slice lo hi none p) pos) o1 (fun Γ => bindR (f Γ) fun a => bindR (g Γ) fun x => bindR (k Γ) fun y => sliceF x y a.1) := by
  intro A l env Γ vf s r Q E hsc hR hRd hf hQ hE
  obtain ⟨m, hn⟩ := hRd.ns
  refine Subscript_ (h1.run hsc hR hRd hf (fun a la _ hf va fa s₁ st₁ ra ta lva hR₁ hRd₁ => ?_) hE)
  obtain ⟨m₁, hn₁⟩ := hRd₁.ns
  refine wpAny_Slice (h2.run hsc hR₁ hRd₁ hf (fun x _ hf vx s₂ st₂ px hR₂ hRd₂ => ?_) (fun x k s' e fl => hE x k s' e (fl.back st₁ hn)))
  obtain ⟨m₂, hn₂⟩ := hRd₂.ns
  have st12 := st₁.trans st₂
  refine h3.run hsc hR₂ hRd₂ hf (fun y _ hf vy s₃ st₃ py hR₃ hRd₃ => ?_) (fun x k s' e fl => hE x k s' e (fl.back st12 hn))
  have st := st12.trans st₃
  refine wpAny_pure (a := Value.none) ?_
  obtain ⟨xs, hlen, hae, rfl⟩ := sliceF_inv hf
  dsimp only at hae
  subst hae
  clear hf
  · skip
    · skip
      have ra₃ := st₃.kp.rp hn₂ (st₂.kp.rp hn₁ ra)
      obtain ⟨b, vb, fb, hx, rx⟩ := listObj ra₃
      have hsz : vb.size = xs.length := by simpa using rx.length
      have hp := St.push (c := c) (L := env.locals) (s := s₃) hRd₃.bs { cls := .type "slice", data := .fields #[vx, vy, .none] }
      have hx' : (s₃.heap.push { cls := .type "slice", data := .fields #[vx, vy, .none] }).IsList b vb := hx.push _
      refine tail_any (ops := _) hx'.typeIs slot_list_getitem.lookup ?_ rfl
      refine wpAny_getItem_list_slice hx' (Heap.IsSliceOf.new ..) px py .none (by simp) ?_ (by rw [hsz]; unfold lim at hlen; unfold sizeLine; omega)
      have hp2 := St.push (c := c) (L := env.locals) hp.bs { cls := .type "list", data := .seq (slicePick vb x y none) }
      have stAll := st.trans (hp.trans hp2)
      obtain ⟨g1, r1, sb1⟩ := rx.drop (x.elim 0 (clipAt xs.length))
      obtain ⟨g2, r2, sb2⟩ := r1.take (y.elim xs.length (clipAt xs.length) - x.elim 0 (clipAt xs.length))
      have hitems : (slicePick vb x y none).toList = (vb.toList.drop (x.elim 0 (clipAt xs.length))).take (y.elim xs.length (clipAt xs.length) - x.elim 0 (clipAt xs.length)) := by
        rw [slicePick_plain, hsz]
      refine hQ _ _ _ (_ :: g2) _ rfl stAll (.list (Heap.get?_push_size _ rfl) rfl rfl ?_) ?_ ?_
      · rw [hitems]
        exact r2.keep fun b o e _ => Heap.get?_push_of_some _ (Heap.get?_push_of_some _ e)
      · intro q hq
        rcases List.mem_cons.mp hq with rfl | hq
        · exact .inl ((st.trans hp).kp.gone hn (fresh_size _))
        · exact ta q (List.mem_cons_of_mem _ (sb1.subset (sb2.subset hq)))
      · have r3 : Rps c.mg (s₃.heap.push { cls := .type "slice", data := .fields #[vx, vy, .none] }) _ _ g2 := r2.keep fun b o e _ => Heap.get?_push_of_some _ e
        exact lv_new r3 (fresh_size _) ((st.trans hp).kp.gone hn (fresh_size _)) ⟨_, _, _, Heap.get?_push_size _ rfl, rfl, rfl⟩
end
end Mine
namespace Mine
open PySem PySem.Calls PyProof.Rows PySem.SeqAt

theorem entry_unchain : entryFor table "proto.unchain" = some Builtin.«proto.unchain» := entryFor_of_tree (by kernel_rfl)
theorem plain_unchain : plainId "proto.unchain" = true := by decide +kernel

section
variable {prog : Program} {w : World} {A : Around}

/-- a new exception is raised while another one is handled -/
theorem raiseNew_h {α : Type} {s : Shared} {e x : Addr} {oe ox : Obj} {ve vx : Array Value} {Q : α → Shared → Prop} {E : Value → Shared → Prop} (hh : A.handled = some (.ref x))
    (hx : s.heap.get? x = some ox) (hdx : ox.data = .fields vx) (hcx : vx[2]? = some .none)
    (he : s.heap.get? e = some oe) (hde : oe.data = .fields ve) (h2 : 2 < ve.size) (hne : x ≠ e)
    (h : E (.ref e) { s with heap := s.heap.update e (Obj.mapFields (·.setIfInBounds 2 (.ref x))) }) : wpAny (model prog w) A (raiseNew (.ref e) : Sem α) Q E s := by
  unfold raiseNew
  refine wpAny_bind (wpAny_handled ?_)
  rw [hh]
  have hne' : ((Value.ref x != Value.ref e) = true) := by simpa using hne
  simp only [hne', if_true]
  refine wpAny_bind (wpAny_holding (wpAny_runValue (codeAny_builtin entry_unchain ?_)))
  rw [Around.under_plainId plain_unchain _]
  show wpAny _ _ (field (.ref x) 2 >>= _) _ _ s
  refine wpAny_bind (wpAny_field hx hdx hcx ?_)
  show wpAny _ _ (if (Value.none == Value.none) = true then _ else _) _ _ s
  rw [if_pos (by rfl)]
  refine wpAny_pure ?_
  show wpAny _ _ (updateField e 2 (.ref x) >>= _) _ _ s
  unfold updateField
  refine wpAny_bind (wpAny_bind (wpAny_load he ?_))
  rw [hde]
  dsimp only
  rw [if_pos h2]
  exact wpAny_update he (wpAny_throw h)

theorem list_end_h {s : Shared} {it l x : Addr} {i : Nat} {items : Array Value} {ox : Obj} {vx : Array Value} {Q : Option Value → Shared → Prop} {E : Value → Shared → Prop} (hh : A.handled = some (.ref x))
    (hx : s.heap.get? x = some ox) (hdx : ox.data = .fields vx) (hcx : vx[2]? = some .none) (hxi : x ≠ it)
    (hit : s.heap.IsListIter it l i) (hl : s.heap.IsList l items) (hi : items[i]? = none)
    (hQ : ∀ h', Heap.ExtBut it s.heap h' → Q none { s with heap := h' }) : wpAny (model prog w) A (pyNext (.ref it)) Q E s := by
  obtain ⟨o, ho, hc, hd⟩ := id hit
  obtain ⟨ol, hol, _, nl, hdl⟩ := hl
  unfold pyNext
  refine wpAny_bind (wpAny_attempt (wpAny_callSpecial?_slot (name := Str.ofString "__next__") hit.typeIs slot_listiter_next
    (wpAny_call_entry slot_listiter_next hit.typeIs entry_listiter_next ?_ (args_listiter_next _))))
  show wpAny _ _ (field (.ref it) 0 >>= _) _ _ s
  refine wpAny_bind (wpAny_field ho hd (x := .ref l) rfl ?_)
  show wpAny _ _ (if (Value.ref l == Value.none) = true then _ else _) _ _ s
  rw [if_neg (show ¬ ((Value.ref l == Value.none) = true) from Bool.false_ne_true)]
  show wpAny _ _ (field (.ref it) 1 >>= _) _ _ s
  refine wpAny_bind (wpAny_field ho hd (x := .int i 0) rfl ?_)
  show wpAny _ _ (seqItems? (.ref l) >>= _) _ _ s
  refine wpAny_bind (wpAny_seqItems hol hdl ?_)
  simp only [Int.toNat_natCast, hi]
  refine wpAny_bind (wpAny_rule (wpAny_bind (wpAny_setField ho hd (by simp) ?_)))
  show wpAny _ _ (newExc (.type "StopIteration") [] >>= _) _ _ _
  refine wpAny_bind ?_
  simp only [newExc, newTuple]
  refine wpAny_bind (wpAny_newObj_type ?_ (by size_fits))
  refine wpAny_bind (m := firstArgMember _ _) (wpAny_of_eq (a := Value.none) (by first | rfl | (simp only [firstArgMember]; rfl)) ?_)
  refine wpAny_newObj_type ?_ (by size_fits)
  have hxl := Heap.lt_size hx
  refine raiseNew_h (A := A.in1) (x := x) (ox := ox) (vx := vx) hh ?_ hdx hcx (Heap.get?_push_size _ rfl) rfl (by simp [ownMembersOf]) ?_ ?_
  · exact Heap.get?_push_of_some _ (Heap.get?_push_of_some _ (((Heap.SameBut.update ..).2 x hxi).trans hx))
  · exact Nat.ne_of_lt (Heap.lt_size (Heap.get?_push_of_some _ (((Heap.SameBut.update ..).2 x hxi).trans hx)))
  refine wpAny_bind (wpAny_isInstance (T := "StopIteration") (b := true) ⟨_, Heap.get?_update_self _ (Heap.get?_push_size _ rfl) rfl, rfl⟩ isSubtype_stop ?_)
  refine wpAny_pure (hQ _ ?_)
  intro b o' hb e
  have h1 := ((Heap.SameBut.update s.heap it (Obj.mapFields (·.setIfInBounds 0 .none))).2 b hb).trans e
  have h2 := Heap.get?_push_of_some { cls := .type "tuple", dict := none, data := .seq ([] : List Value).toArray } h1
  have hlt := Heap.lt_size h2
  refine (Heap.get?_update_other _ _ (fun q => ?_)).trans (Heap.get?_push_of_some _ h2)
  rw [← q] at hlt
  exact absurd hlt (Nat.lt_irrefl _)

theorem range_end_h {s : Shared} {it x : Addr} {ox : Obj} {vx : Array Value} {y left step : Int} {Q : Option Value → Shared → Prop} {E : Value → Shared → Prop} (hh : A.handled = some (.ref x))
    (hx : s.heap.get? x = some ox) (hdx : ox.data = .fields vx) (hcx : vx[2]? = some .none)
    (hit : IsRangeIter s.heap it y left step) (hleft : left ≤ 0)
    (hQ : ∀ h', Heap.ExtBut it s.heap h' → Q none { s with heap := h' }) : wpAny (model prog w) A (pyNext (.ref it)) Q E s := by
  have hT : s.TypeIs (.ref it) "range_iterator" := ⟨_, hit, rfl⟩
  unfold pyNext
  refine wpAny_bind (wpAny_attempt (wpAny_callSpecial?_slot (name := Str.ofString "__next__") hT F.slot_range_iterator_next
    (wpAny_call_entry F.slot_range_iterator_next hT F.entry_range_iterator_next ?_ (F.args_range_iterator_next_1 _))))
  show wpAny _ _ (field (.ref it) 0 >>= _) _ _ s
  refine wpAny_bind (wpAny_field hit rfl (x := rawInt y) rfl ?_)
  show wpAny _ _ (field (.ref it) 1 >>= _) _ _ s
  refine wpAny_bind (wpAny_field hit rfl (x := rawInt left) rfl ?_)
  show wpAny _ _ (field (.ref it) 2 >>= _) _ _ s
  refine wpAny_bind (wpAny_field hit rfl (x := rawInt step) rfl ?_)
  show wpAny _ _ (if left ≤ 0 then _ else _) _ _ s
  rw [if_pos hleft]
  refine wpAny_bind (wpAny_rule ?_)
  refine wpAny_bind ?_
  show wpAny _ _ (newExc (.type "StopIteration") [] >>= _) _ _ _
  refine wpAny_bind ?_
  simp only [newExc, newTuple]
  refine wpAny_bind (wpAny_newObj_type ?_ (by size_fits))
  refine wpAny_bind (m := firstArgMember _ _) (wpAny_of_eq (a := Value.none) (by first | rfl | (simp only [firstArgMember]; rfl)) ?_)
  refine wpAny_newObj_type ?_ (by size_fits)
  have hxl := Heap.lt_size hx
  refine raiseNew_h (A := A.in1) (x := x) (ox := ox) (vx := vx) hh ?_ hdx hcx (Heap.get?_push_size _ rfl) rfl (by simp [ownMembersOf]) ?_ ?_
  · exact Heap.get?_push_of_some _ (Heap.get?_push_of_some _ hx)
  · exact Nat.ne_of_lt (Heap.lt_size (Heap.get?_push_of_some _ hx))
  refine wpAny_bind (wpAny_isInstance (T := "StopIteration") (b := true) ⟨_, Heap.get?_update_self _ (Heap.get?_push_size _ rfl) rfl, rfl⟩ isSubtype_stop ?_)
  refine wpAny_pure (hQ _ ?_)
  intro b o' hb e
  have h2 := Heap.get?_push_of_some { cls := .type "tuple", dict := none, data := .seq ([] : List Value).toArray } e
  have hlt := Heap.lt_size h2
  refine (Heap.get?_update_other _ _ (fun q => ?_)).trans (Heap.get?_push_of_some _ h2)
  rw [← q] at hlt
  exact absurd hlt (Nat.lt_irrefl _)
end
end Mine
namespace Mine
open PySem PySem.Calls PyProof.Rows PySem.SeqAt

section
variable {prog : Program} {w : World} {A : Around} {hm : Bool}

/-- an iterator's object -/
inductive ItObj (h : Heap) (I : Addr) : Prop
  | mk (o : Obj) (T : String) (h1 : h.get? I = some o) (h2 : NotDict o) (h3 : o.cls = .type T) (h4 : T ≠ "list") (h5 : T ≠ "tuple") : ItObj h I
/-- what is walked -/
inductive Wk0 (prog : Program) (w : World) (A : Around) (hm : Bool) (I : Addr) (k : Nat) (P : Nat → Value → Prop) (h : Heap) (R : Addr → Prop) : Prop
  | mk (fp : List Addr) (W : Nat → Heap → Prop) (hW : Walks prog w A I fp [I] k P W) (h0 : W 0 h) (hfp : ∀ b ∈ fp, b ≠ I → ∃ o, h.get? b = some o ∧ NotDict o) (hfp' : hm = false → ∀ b ∈ fp, b = I ∨ R b) (hI : ∀ i h', W i h' → ItObj h' I) : Wk0 prog w A hm I k P h R
noncomputable def listIt (ax : Addr) : Obj := { cls := .type "list_iterator", data := .fields #[.ref ax, .int 0 0] }
theorem hm_lt {h : Heap} {x : Addr} {o : Obj} (e : h.get? x = some o) : x ≠ h.objs.size := Nat.ne_of_lt (Heap.lt_size e)

theorem walk_list {h : Heap} {ax : Addr} {items : Array Value} (hH : Hm hm A h) (hl : h.IsList ax items) :
    Wk0 prog w A hm h.objs.size items.size (fun i v => items[i]? = some v) (h.push (listIt ax)) (· = ax) := by
  have hlt : ax ≠ h.objs.size := by obtain ⟨_, e, _⟩ := hl; exact hm_lt e
  have hI : (h.push (listIt ax)).IsListIter h.objs.size ax 0 := ⟨_, Heap.get?_push_size _ rfl, rfl, rfl⟩
  have hI1 : ∃ o, (h.push (listIt ax)).get? h.objs.size = some o ∧ NotDict o := ⟨_, Heap.get?_push_size _ rfl, notDict_of_fields rfl⟩
  have ha1 : ∃ o, (h.push (listIt ax)).get? ax = some o ∧ NotDict o := by obtain ⟨o, e, _, k, hd⟩ := hl; exact ⟨o, Heap.get?_push_of_some _ e, notDict_of_seq hd⟩
  cases hm with
  | false =>
    refine ⟨[h.objs.size, ax], _, Walks.list hH _ ax hlt items, ⟨hI, hl.push _⟩, fun b hb _ => ?_, fun _ b hb => by simpa using hb, fun i h' st => by obtain ⟨o, e, k, d⟩ := st.1; exact ⟨o, _, e, notDict_of_fields d, k, by decide, by decide⟩⟩
    rcases List.mem_cons.mp hb with rfl | hb
    · exact hI1
    · rcases List.mem_cons.mp hb with rfl | hb
      · exact ha1
      · cases hb
  | true =>
    obtain ⟨x, ox, vx, h1, h2, h3, h4⟩ := hH
    have hxI : x ≠ h.objs.size := hm_lt h2
    refine ⟨[h.objs.size, ax, x], fun i h' => (h'.IsListIter h.objs.size ax i ∧ h'.IsList ax items) ∧ h'.get? x = some ox, ?_, ⟨⟨hI, hl.push _⟩, Heap.get?_push_of_some _ h2⟩, fun b hb _ => ?_, fun q => (by cases q), fun i h' st => by obtain ⟨o, e, k, d⟩ := st.1.1; exact ⟨o, _, e, notDict_of_fields d, k, by decide, by decide⟩⟩
    · refine ⟨fun b hb => by simp at hb; simp [hb], fun i h₁ h₂ st hk => ⟨⟨st.1.1.at fun o e => hk _ (by simp) o e, st.1.2.at fun o e => hk ax (by simp) o e⟩, hk x (by simp) _ st.2⟩, ?_, ?_, ?_⟩
      · intro i s Q E hi st hQ
        refine wpAny_pyNext_list_item st.1.1 st.1.2 (x := items[i]) (by simp [hi]) fun h' hit' hs' => ?_
        exact hQ _ h' s.toks (by simp [hi]) ⟨⟨hit', st.1.2.extBut hs'.extBut hlt⟩, hs'.extBut x _ hxI st.2⟩ fun b o hb e => hs'.extBut b o (fun q => hb (by simp [q])) e
      · intro s Q E st hQ
        exact list_end_h h1 st.2 h3 h4 hxI st.1.1 st.1.2 (by simp) fun h' he' => hQ h' s.toks fun b o hb e => he' b o (fun q => hb (by simp [q])) e
      · intro i s Q E st hQ
        exact wpAny_pyIter_listiter st.1.1 hQ
    · rcases List.mem_cons.mp hb with rfl | hb
      · exact hI1
      · rcases List.mem_cons.mp hb with rfl | hb
        · exact ha1
        · rcases List.mem_cons.mp hb with rfl | hb
          · exact ⟨ox, Heap.get?_push_of_some _ h2, notDict_of_fields h3⟩
          · cases hb

noncomputable def rangeIt (a k st : Int) : Obj := { cls := .type "range_iterator", data := .fields #[rawInt a, rawInt k, rawInt st] }
theorem walk_range {h : Heap} {a st : Int} {k : Nat} (hH : Hm hm A h) :
    Wk0 prog w A hm h.objs.size k (fun i v => ∃ t, v = .int (a + i * st) t) (h.push (rangeIt a k st)) (fun _ => False) := by
  have hI1 : ∃ o, (h.push (rangeIt a k st)).get? h.objs.size = some o ∧ NotDict o := ⟨_, Heap.get?_push_size _ rfl, notDict_of_fields rfl⟩
  have h0 : IsRangeIter (h.push (rangeIt a k st)) h.objs.size (a + (0 : Nat) * st) ((k : Int) - (0 : Nat)) st := by
    have := Heap.get?_push_size h (o := rangeIt a k st) rfl
    simpa [IsRangeIter, rangeIt] using this
  cases hm with
  | false =>
    refine ⟨[h.objs.size], _, Walks.range hH _ a st k, h0, fun b hb _ => ?_, fun _ b hb => .inl (List.mem_singleton.mp hb), fun i h' st => ⟨_, _, st, notDict_of_fields rfl, rfl, by decide, by decide⟩⟩
    rcases List.mem_cons.mp hb with rfl | hb
    · exact hI1
    · cases hb
  | true =>
    obtain ⟨x, ox, vx, h1, h2, h3, h4⟩ := hH
    have hxI : x ≠ h.objs.size := hm_lt h2
    refine ⟨[h.objs.size, x], fun i h' => IsRangeIter h' h.objs.size (a + (i : Nat) * st) ((k : Int) - (i : Nat)) st ∧ h'.get? x = some ox, ?_, ⟨h0, Heap.get?_push_of_some _ h2⟩, fun b hb _ => ?_, fun q => (by cases q), fun i h' st => ⟨_, _, st.1, notDict_of_fields rfl, rfl, by decide, by decide⟩⟩
    · refine ⟨fun b hb => by simp at hb; simp [hb], fun i h₁ h₂ sti hk => ⟨hk _ (by simp) _ sti.1, hk x (by simp) _ sti.2⟩, ?_, ?_, ?_⟩
      · intro i s Q E hi sti hQ
        refine wpAny_pyNext_range_item sti.1 (by omega) fun h' hit' hs' => ?_
        refine hQ _ h' _ ⟨_, rfl⟩ ⟨?_, hs'.extBut x _ hxI sti.2⟩ fun b o hb e => hs'.extBut b o (fun q => hb (by simp [q])) e
        have e1 : a + ((i + 1 : Nat) : Int) * st = a + (i : Int) * st + st := by push_cast; rw [Int.add_mul, Int.one_mul, Int.add_assoc]
        have e2 : (k : Int) - ((i + 1 : Nat) : Int) = (k : Int) - (i : Int) - 1 := by push_cast; omega
        rw [e1, e2]; exact hit'
      · intro s Q E sti hQ
        exact range_end_h h1 sti.2 h3 h4 sti.1 (by omega) fun h' he' => hQ h' s.toks fun b o hb e => he' b o (fun q => hb (by simp [q])) e
      · intro i s Q E sti hQ
        exact wpAny_pyIter_rangeiter sti.1 hQ
    · rcases List.mem_cons.mp hb with rfl | hb
      · exact hI1
      · rcases List.mem_cons.mp hb with rfl | hb
        · exact ⟨ox, Heap.get?_push_of_some _ h2, notDict_of_fields h3⟩
        · cases hb
end

section
variable {c : Cx} {hm : Bool} {n : Nat} {sc : Scope} {nm : List Str}

/-- what an iterable gives -/
inductive ItOk (c : Cx) (hm : Bool) (A : Around) (L : Addr) (T : List Addr → Prop) (s : Shared) (xs : List D) (I : Addr) (s' : Shared) : Prop
  | mk (fp : List Addr) (P : Nat → Value → Prop) (W : Nat → Heap → Prop) (fpA : List Addr) (st : St c L s s') (hW : Walks c.prog c.w A I fp [I] xs.length P W) (h0 : W 0 s'.heap) (hI : s.heap.get? I = none)
      (hfp : ∀ b ∈ fp, b ≠ I → ∃ o, s'.heap.get? b = some o ∧ NotDict o) (hWI : ∀ i h', W i h' → ItObj h' I) (hfp' : hm = false → ∀ b ∈ fp, b = I ∨ b ∈ fpA) (hT : T fpA) (hA : ∀ b ∈ fpA, ∃ o, s'.heap.get? b = some o ∧ o.cls = .type "list")
      (hlen : xs.length ≤ lim) (hit : ∀ i v d, P i v → xs[i]? = some d → ∃ g, Rp c.mg s'.heap v d g ∧ ∀ a ∈ g, a ∈ fpA) : ItOk c hm A L T s xs I s'
theorem ItOk.back {A : Around} {L : Addr} {T : List Addr → Prop} {s s₁ s' : Shared} {xs : List D} {I : Addr} {m : Str → Option Value} (it : ItOk c hm A L (· = []) s₁ xs I s') (st : St c L s s₁) (hn : s.heap.Ns L m) (hT : T []) : ItOk c hm A L T s xs I s' := by
  obtain ⟨fp, P, W, fpA, st', hW, h0, hI, hfp, hWI, hfp', rfl, hA, hlen, hit⟩ := it
  exact ⟨fp, P, W, _, st.trans st', hW, h0, st.kp.gone hn hI, hfp, hWI, hfp', hT, hA, hlen, hit⟩
/-- something that is walked -/
noncomputable def DenIt (c : Cx) (hm : Bool) (n : Nat) (sc : Scope) (nm : List Str) (e : Expr) (occ : List Nat) (f : G → Option (R (List D))) : Prop :=
  ∀ (A : Around) (l : List Env) (env : Env) (Γ : G) (vf : Nat → Value × List Addr) (s : Shared) (r : R (List D)) (Q : Value → Shared → Prop) (E : Value → Shared → Prop),
    env.scope = sc → Room c hm n A l s.heap → Rd c env nm Γ vf s → f Γ = some r →
    (∀ xs I s', r = .ok xs → ItOk c hm A env.locals (Tr s.heap vf occ) s xs I s' → Q (.ref I) s') →
    (∀ x k s', r = .exc k → Fly c env.locals l s x k s' → E x s') →
    wpAny (model c.prog c.w) A (eval e env) (fun x s₁ => wpAny (model c.prog c.w) A (pyIter x) Q E s₁) E s

noncomputable def itF (a : D × Nat) : Option (R (List D)) := match a.1 with
  | .list xs => if xs.length ≤ lim then some (.ok xs) else none
  | _ => none
theorem den_it {e : Expr} {o : List Nat} {f : G → Option (R (D × Nat))} (h1 : Den c hm n sc nm e o f) : DenIt c hm n sc nm e o (fun Γ => bindR (f Γ) itF) := by
  intro A l env Γ vf s r Q E hsc hR hRd hf hQ hE
  obtain ⟨m, hn⟩ := hRd.ns
  refine h1.run hsc hR hRd hf (fun a la _ hf va fa s₁ st₁ ra ta lva hR₁ hRd₁ => ?_) hE
  unfold itF at hf
  dsimp only at hf
  cases a with
  | list xs =>
    dsimp only at hf
    split at hf
    · rename_i hlen
      obtain rfl := Option.some.inj hf
      obtain ⟨b, vb, fb, hx, rx⟩ := listObj ra
      have hsz : vb.size = xs.length := by simpa using rx.length
      refine wpAny_pyIter_list hx ?_
      obtain ⟨fp, W, hW, h0, hfp, hfp', hWI⟩ := walk_list (prog := c.prog) (w := c.w) (hm := hm) (A := A) hR₁.hm hx
      have hp := St.push (c := c) (L := env.locals) (s := s₁) hRd₁.bs (listIt b)
      rw [hsz] at hW
      refine hQ xs _ _ rfl ⟨fp, _, W, b :: fb, st₁.trans hp, hW, h0, st₁.kp.gone hn (fresh_size _), hfp, hWI, fun q y hy => (hfp' q y hy).imp id fun e => by rw [e]; exact List.mem_cons_self .., ta, ?_, hlen, ?_⟩
      · intro y hy
        obtain ⟨o, vs, k, e1, e2, _⟩ := ra.fp_list y hy
        exact ⟨o, Heap.get?_push_of_some _ e1, e2⟩
      · intro i v d hv hd
        obtain ⟨v', g, k1, k2, k3⟩ := rx.get hd
        have : v = v' := by
          have k4 : vb[i]? = some v' := by simpa using k1
          exact Option.some.inj (hv.symm.trans k4)
        subst this
        exact ⟨g, k2.keep fun b o e _ => Heap.get?_push_of_some _ e, fun a ha => List.mem_cons_of_mem _ (k3 a ha)⟩
    · exact nos hf
  | _ => exact nos hf

noncomputable def itS (a : D × Nat) : Option (R (List D)) := match a.1 with
  | .str s => if s.length ≤ lim then some (.ok (s.map fun ch => .str [ch])) else none
  | _ => none
theorem den_its {e : Expr} {o : List Nat} {f : G → Option (R (D × Nat))} (h1 : Den c false n sc nm e o f) : DenIt c false n sc nm e [] (fun Γ => bindR (f Γ) itS) := by
  intro A l env Γ vf s r Q E hsc hR hRd hf hQ hE
  obtain ⟨m, hn⟩ := hRd.ns
  refine h1.run hsc hR hRd hf (fun a la _ hf va fa s₁ st₁ ra ta lva hR₁ hRd₁ => ?_) hE
  unfold itS at hf
  dsimp only at hf
  cases a with
  | str x =>
    dsimp only at hf
    split at hf
    · rename_i hlen
      obtain rfl := Option.some.inj hf
      obtain ⟨t, rfl, rfl⟩ := ra.inv
      have hsz : (Str.mk x.toArray).cps.size = (x.map fun ch => D.str [ch]).length := by simp
      have key : ∀ (T : String) (W : Nat → Heap → Prop), (∀ i h', W i h' → ItObj h' s₁.heap.objs.size) → Walks c.prog c.w A s₁.heap.objs.size [s₁.heap.objs.size] [s₁.heap.objs.size] (Str.mk x.toArray).cps.size (SignAt (Str.mk x.toArray)) W →
          W 0 (s₁.heap.push { cls := .type T, data := .fields #[.str (Str.mk x.toArray) t, .int 0 0] }) →
          Q (.ref s₁.heap.objs.size) { s₁ with heap := s₁.heap.push { cls := .type T, data := .fields #[.str (Str.mk x.toArray) t, .int 0 0] } } := by
        intro T W hWI hW h0
        have hp := St.push (c := c) (L := env.locals) (s := s₁) hRd₁.bs { cls := .type T, data := .fields #[.str (Str.mk x.toArray) t, .int 0 0] }
        rw [hsz] at hW
        refine hQ _ _ _ rfl ⟨_, _, W, [], st₁.trans hp, hW, h0, st₁.kp.gone hn (fresh_size _), ?_, hWI, fun _ y hy => .inl (List.mem_singleton.mp hy), Tr.nil, fun _ h => (nomatch h), by simpa using hlen, ?_⟩
        · intro b hb hne
          simp only [List.mem_singleton] at hb
          exact absurd hb hne
        · intro i v d hv hd
          obtain ⟨ch, u, h1, rfl⟩ := hv
          simp only [List.getElem?_map, Option.map_eq_some_iff] at hd
          obtain ⟨ch', h2, rfl⟩ := hd
          have h3 : x[i]? = some ch := by simpa using h1
          rw [h3] at h2
          obtain rfl := Option.some.inj h2
          exact ⟨[], Rp.str [ch] u, fun _ h => nomatch h⟩
      cases ha : (Str.mk x.toArray).cps.all (· < 128)
      · exact wpAny_pyIter_wide ha (key "str_iterator" _ (fun i h' st => by obtain ⟨o, e, k, d⟩ := st; exact ⟨o, _, e, notDict_of_fields d, k, by decide, by decide⟩) (Walks.strWide hR₁.hm _ _ t) ⟨_, Heap.get?_push_size _ rfl, rfl, rfl⟩)
      · exact wpAny_pyIter_ascii ha (key "str_ascii_iterator" _ (fun i h' st => by obtain ⟨o, e, k, d⟩ := st; exact ⟨o, _, e, notDict_of_fields d, k, by decide, by decide⟩) (Walks.strAscii hR₁.hm _ _ t) ⟨_, Heap.get?_push_size _ rfl, rfl, rfl⟩)
    · exact nos hf
  | _ => exact nos hf

noncomputable def rngU (a b : Int) : Option (R (List D)) :=
  if -1000000000 ≤ a ∧ a ≤ 1000000000 ∧ b ≤ 1000000000 ∧ -1000000000 ≤ b ∧ (b - a).toNat ≤ lim then some (.ok ((List.range (b - a).toNat).map fun (i : Nat) => .int (a + i))) else none
noncomputable def rngF : List D → Option (R (List D))
  | [.int b] => rngU 0 b
  | [.int a, .int b] => rngU a b
  | [.int a, .int b, .int st] => if st = -1 ∧ -1000000000 ≤ a ∧ a ≤ 1000000000 ∧ b ≤ 1000000000 ∧ -1000000000 ≤ b ∧ (a - b).toNat ≤ lim then some (.ok ((List.range (a - b).toNat).map fun (i : Nat) => .int (a - i))) else none
  | _ => none

theorem range_post {A : Around} {l : List Env} {L : Addr} {s : Shared} {m : Str → Option Value} {Q : Value → Shared → Prop} {E : Value → Shared → Prop} {x : Addr} {a b st : Int} {k : Nat} {t u v : Tok} (hR : Room c hm n A l s.heap) (_ : s.heap.Ns L m) (hb : Gd c s)
    (hr : IsRange s.heap x a b st t u v) (hsmall : Builtin.Range.small a b st = true) (hk : Builtin.Range.rangeSize a b st = k) (hlen : k ≤ lim) (g : Nat → Int) (hg : ∀ i : Nat, g i = a + i * st)
    (hQ : ∀ I s', ItOk c hm A L (· = []) s ((List.range k).map (fun i => D.int (g i))) I s' → Q (.ref I) s') :
    wpAny (model c.prog c.w) A (pyIter (.ref x)) Q E s := by
  refine wpAny_pyIter_range hr hsmall ?_
  rw [hk]
  obtain ⟨fp, W, hW, h0, hfp, hfp', hWI⟩ := walk_range (prog := c.prog) (w := c.w) (hm := hm) (A := A) (a := a) (st := st) (k := k) hR.hm
  have hp := St.push (c := c) (L := L) (s := s) hb (rangeIt a k st)
  have hl : ((List.range k).map fun i => D.int (g i)).length = k := by simp
  refine hQ _ _ ⟨fp, _, W, [], hp, hl.symm ▸ hW, h0, fresh_size _, hfp, hWI, fun q y hy => (hfp' q y hy).imp id False.elim, rfl, fun _ h => (nomatch h), hl.symm ▸ hlen, ?_⟩
  intro i v d hv hd
  obtain ⟨t', rfl⟩ := hv
  simp only [List.getElem?_map, Option.map_eq_some_iff] at hd
  obtain ⟨i', h2, rfl⟩ := hd
  have : i' = i := by
    rw [List.getElem?_range (by
      have := (List.getElem?_eq_some_iff.mp h2).1
      simpa using this)] at h2
    exact (Option.some.inj h2).symm
  subst this
  exact ⟨[], by rw [hg]; exact Rp.int _ t', fun _ h => nomatch h⟩

theorem rngU_inv {a b : Int} {r : R (List D)} (h : rngU a b = some r) : (-1000000000 ≤ a ∧ a ≤ 1000000000 ∧ b ≤ 1000000000 ∧ -1000000000 ≤ b ∧ (b - a).toNat ≤ lim) ∧ r = .ok ((List.range (b - a).toNat).map fun (i : Nat) => .int (a + i)) := by
  unfold rngU at h
  split at h
  · exact ⟨by assumption, (Option.some.inj h).symm⟩
  · exact nos h
theorem den_range {x : Str} {e : Expr} {rest : List Expr} {np pos : Pos} {o1 : List Nat} {g : G → Option (R (List D))} (ok : c.Ok) (hg : Glb c x (.type "range"))
    (h1 : DenA c hm n sc nm (e :: rest) o1 g) (hk : sc.names.lookup x = some .globalImplicit := by kernel_rfl) (hd : (x == ("__debug__" : Str)) = false := by kernel_rfl)
    (hs : NotStar e := by intro _ _; rfl) (hp : NoStars rest := by intro _ _; rfl) :
    DenIt c hm n sc nm (.Call (.Name x np) (e :: rest) [] pos) [] (fun Γ => bindR (g Γ) rngF) := by
  intro A l env Γ vf s r Q E hsc hR hRd hf hQ hE
  obtain ⟨m, hn⟩ := hRd.ns
  refine Call_ (load_glb ok hRd hsc hk hd hg ?_) (by rfl)
  refine PyProof.Rows.callWith_type1 ?_ (hs _ _) (hp _ _)
  refine h1.run hsc hR hRd hf (fun ds hfs hf vs fs s₁ st₁ rs ts hR₁ hRd₁ => ?_) hE
  clear hfs
  obtain ⟨m₁, hn₁⟩ := hRd₁.ns
  have hsm : ∀ a b : Int, -1000000000 ≤ a ∧ a ≤ 1000000000 ∧ b ≤ 1000000000 ∧ -1000000000 ≤ b ∧ (b - a).toNat ≤ lim → Builtin.Range.small a b 1 = true := fun a b h => small_one (by omega) (by omega) (by omega) (by omega)
  have hsz : ∀ a b : Int, Builtin.Range.rangeSize a b 1 = ((b - a).toNat : Nat) := fun a b => by rw [rangeSize_one]; split <;> omega
  unfold rngF at hf
  split at hf
  · rename_i b
    obtain ⟨va, rfl, ra⟩ := rs.inv1
    obtain ⟨t, rfl, rfl⟩ := ra.inv
    obtain ⟨hc, rfl⟩ := rngU_inv hf
    refine call_range_1 ?_
    have hp := St.of_keeps (c := c) (L := env.locals) (s := s₁) hRd₁.bs (s₁.heap.push { cls := .type "range", data := .fields #[.int 0 s₁.toks, .int b t, .int 1 (s₁.toks + 1)] }) (s₁.toks + 1 + 1) (fun _ _ e => Heap.get?_push_of_some _ e) (by omega)
    refine range_post (L := env.locals) (hR₁.keep hp.kp hn₁) (hp.kp.ns _ hn₁) hp.bs (IsRange.new ..) (hsm _ _ hc) (hsz 0 b) hc.2.2.2.2 (fun i => 0 + i) (fun i => by omega) ?_
    exact fun I s' it => hQ _ I s' rfl (it.back (st₁.trans hp) hn Tr.nil)
  · rename_i a b
    obtain ⟨va, vb, fa, fb, ra, rb⟩ := rs.inv2
    obtain ⟨t, rfl, rfl⟩ := ra.inv
    obtain ⟨u, rfl, rfl⟩ := rb.inv
    obtain ⟨hc, rfl⟩ := rngU_inv hf
    refine call_range_2 ?_
    have hp := St.of_keeps (c := c) (L := env.locals) (s := s₁) hRd₁.bs (s₁.heap.push { cls := .type "range", data := .fields #[.int a t, .int b u, .int 1 s₁.toks] }) (s₁.toks + 1) (fun _ _ e => Heap.get?_push_of_some _ e) (by omega)
    refine range_post (L := env.locals) (hR₁.keep hp.kp hn₁) (hp.kp.ns _ hn₁) hp.bs (IsRange.new ..) (hsm _ _ hc) (hsz a b) hc.2.2.2.2 (fun i => a + i) (fun i => by omega) ?_
    exact fun I s' it => hQ _ I s' rfl (it.back (st₁.trans hp) hn Tr.nil)
  · rename_i a b st0
    split at hf
    · rename_i hc
      obtain rfl := Option.some.inj hf
      obtain ⟨rfl, hc⟩ := hc
      obtain ⟨ra, r1⟩ := rs.invC
      obtain ⟨rb, r2⟩ := r1.invC
      obtain ⟨rc, r3⟩ := r2.invC
      obtain ⟨rfl, rfl⟩ := r3.inv
      obtain ⟨t, rfl, rfl⟩ := ra.inv
      obtain ⟨u, rfl, rfl⟩ := rb.inv
      obtain ⟨v, rfl, rfl⟩ := rc.inv
      refine call_range_3 (by decide) ?_ (.inl (PyProof.noPylong_small (by decide)))
      have hp := St.of_keeps (c := c) (L := env.locals) (s := s₁) hRd₁.bs (s₁.heap.push { cls := .type "range", data := .fields #[.int a t, .int b u, .int (-1) v] }) s₁.toks (fun _ _ e => Heap.get?_push_of_some _ e) hRd₁.bs.2
      have hsz1 : Builtin.Range.rangeSize a b (-1) = ((a - b).toNat : Nat) := by
        unfold Builtin.Range.rangeSize
        rw [if_neg (by decide)]
        split
        · simp; omega
        · omega
      have hsm1 : Builtin.Range.small a b (-1) = true := by
        unfold Builtin.Range.small
        rw [hsz1]
        unfold Builtin.Range.rangeFitsLong
        have hl : lim = 10000000 := rfl
        have h1 : decide ((-1 : Int) > 0) = false := by decide
        simp
        omega
      refine range_post (L := env.locals) (hR₁.keep hp.kp hn₁) (hp.kp.ns _ hn₁) hp.bs (IsRange.new ..) hsm1 hsz1 hc.2.2.2.2 (fun i => a - i) (fun i => by omega) ?_
      exact fun I s' it => hQ _ I s' rfl (it.back (st₁.trans hp) hn Tr.nil)
    · exact nos hf
  · exact nos hf
end
end Mine
namespace Mine
open PySem PySem.Calls PyProof.Rows PySem.SeqAt

-- kept but for some places
noncomputable def KpB (S : List Addr) (h h' : Heap) : Prop := ∀ b o, b ∉ S → h.get? b = some o → (NotDict o → h'.get? b = some o) ∧ ∃ sl, h'.get? b = some { o with slots := sl }
theorem KpB.refl (S : List Addr) (h : Heap) : KpB S h h := fun _ o _ e => ⟨fun _ => e, o.slots, e⟩
theorem KpB.trans {S : List Addr} {h₁ h₂ h₃ : Heap} (x : KpB S h₁ h₂) (y : KpB S h₂ h₃) : KpB S h₁ h₃ := fun b o hb e => by
  obtain ⟨h1, sl, h2⟩ := x b o hb e
  obtain ⟨h3, sl', h4⟩ := y b _ hb h2
  exact ⟨fun nd => (y b o hb (h1 nd)).1 nd, sl', h4⟩
theorem KpB.of_but {S : List Addr} {h h' : Heap} (k : ∀ b o, b ∉ S → h.get? b = some o → h'.get? b = some o) : KpB S h h' := fun b o hb e => ⟨fun _ => k b o hb e, o.slots, k b o hb e⟩
theorem KpB.of_kp {S : List Addr} {C : Addr} {h h' : Heap} (k : Kp C h h') (hC : C ∈ S) : KpB S h h' := fun b o hb e =>
  ⟨fun nd => k.obj b o (fun q => hb (q ▸ hC)) e nd, k.dct b o (fun q => hb (q ▸ hC)) e⟩
theorem KpB.kp {S : List Addr} {L : Addr} {h h' : Heap} (k : KpB S h h') (hS : ∀ b ∈ S, h.get? b = none) : Kp L h h' := by
  have hb : ∀ b o, h.get? b = some o → b ∉ S := fun b o e hm => by rw [hS b hm] at e; exact nos e
  refine ⟨fun b o _ e nd => (k b o (hb b o e) e).1 nd, fun b o _ e => (k b o (hb b o e) e).2, fun m hn => ?_⟩
  obtain ⟨o, es, ep, h1, h2, h3⟩ := hn
  obtain ⟨sl, h4⟩ := (k L o (hb L o h1) h1).2
  exact ⟨_, es, ep, h4, h2, h3⟩
theorem KpB.mono {S T : List Addr} {h h' : Heap} (k : KpB S h h') (hs : ∀ b ∈ S, b ∈ T) : KpB T h h' := fun b o hb e => k b o (fun q => hb (hs b q)) e

-- the scope of a comprehension, as seen in its env
noncomputable def relabelS (scope sc : Scope) : Scope :=
  { scope with names := scope.names.map fun (n, k) => if (k == .free && sc.kind == .function && sc.names.lookup n == some .cell) then (n, .cell) else (n, k) }
noncomputable def closeL (cells : List (Str × Addr)) : List (Str × NameKind) → List (Str × Addr) → List (Str × Addr)
  | [], acc => acc
  | (x, k) :: r, acc => closeL cells r (if k == .free then (match cells.lookup x with | some a => (x, a) :: acc | none => acc) else acc)

theorem forIn_pure {α β : Type} (f : α → β → Sem (ForInStep β)) (g : α → β → β) : ∀ (l : List α) (b : β), (∀ x ∈ l, ∀ b, f x b = pure (.yield (g x b))) → forIn l b f = pure (l.foldl (fun b x => g x b) b)
  | [], b, _ => rfl
  | x :: l, b, h => by
    rw [List.forIn_cons, h x List.mem_cons_self, pure_bind]
    exact forIn_pure f g l _ fun y hy => h y (List.mem_cons_of_mem _ hy)
theorem closeL_foldl (cells : List (Str × Addr)) : ∀ (l : List (Str × NameKind)) (acc : List (Str × Addr)),
    l.foldl (fun b (x : Str × NameKind) => if x.2 == .free then (match cells.lookup x.1 with | some a => (x.1, a) :: b | none => b) else b) acc = closeL cells l acc
  | [], _ => rfl
  | (x, k) :: r, acc => by rw [List.foldl_cons, closeL]; exact closeL_foldl cells r _
theorem closureFor_eq {scope : Scope} {env : Env} (h : ∀ x ∈ scope.names, x.2 = .free → ∃ a, env.cells.lookup x.1 = some a) : closureFor scope env = pure (closeL env.cells scope.names []) := by
  unfold closureFor
  rw [← closeL_foldl]
  dsimp only
  rw [forIn_pure _ (fun (x : Str × NameKind) b => if x.2 == .free then (match env.cells.lookup x.1 with | some a => (x.1, a) :: b | none => b) else b) scope.names []]
  · rfl
  · rintro ⟨x, k⟩ hx b
    by_cases hk : k = .free
    · obtain ⟨a, ha⟩ := h (x, k) hx hk
      dsimp only at ha
      subst hk
      simp only [beq_self_eq_true, if_true, ha]
      unfold cellOf
      rw [ha]
      rfl
    · have : (k == NameKind.free) = false := by simpa using hk
      simp only [this, Bool.false_eq_true, if_false]

theorem closeL_lookup {cells : List (Str × Addr)} {y : Str} {a : Addr} (hy : cells.lookup y = some a) : ∀ (names : List (Str × NameKind)) (acc : List (Str × Addr)),
    (acc.lookup y = none ∨ acc.lookup y = some a) → ((y, NameKind.free) ∈ names ∨ acc.lookup y = some a) → (closeL cells names acc).lookup y = some a
  | [], acc, _, h => by
    rcases h with h | h
    · cases h
    · exact h
  | (x, k) :: r, acc, h0, h => by
    rw [closeL]
    by_cases hx : x = y
    · subst hx
      by_cases hk : k = .free
      · subst hk
        simp only [beq_self_eq_true, if_true, hy]
        exact closeL_lookup hy r _ (.inr (by simp)) (.inr (by simp))
      · have hk' : (k == NameKind.free) = false := by simpa using hk
        simp only [hk', Bool.false_eq_true, if_false]
        refine closeL_lookup hy r acc h0 ?_
        rcases h with h | h
        · rcases List.mem_cons.mp h with e | h
          · cases e; exact absurd rfl hk
          · exact .inl h
        · exact .inr h
    · have hbeq : (y == x) = false := by simpa using fun e : y = x => hx e.symm
      have hl : ∀ b, List.lookup y ((x, b) :: acc) = acc.lookup y := fun b => by simp [List.lookup_cons, hbeq]
      have hmem : (y, NameKind.free) ∈ r ∨ acc.lookup y = some a := by
        rcases h with h | h
        · rcases List.mem_cons.mp h with e | h
          · cases e; exact absurd rfl hx
          · exact .inl h
        · exact .inr h
      split
      · split
        · exact closeL_lookup hy r _ (by rw [hl]; exact h0) (by rw [hl]; exact hmem)
        · exact closeL_lookup hy r _ h0 hmem
      · exact closeL_lookup hy r _ h0 hmem

theorem mem_of_lookupK : ∀ {l : List (Str × NameKind)} {y : Str} {k : NameKind}, l.lookup y = some k → (y, k) ∈ l
  | [], _, _, h => by exact nos h
  | (x, k') :: r, y, k, h => by
    rw [List.lookup_cons] at h
    cases hb : y == x with
    | true => rw [hb] at h; obtain rfl := Option.some.inj h; rw [beq_iff_eq] at hb; subst hb; exact List.mem_cons_self ..
    | false => rw [hb] at h; exact List.mem_cons_of_mem _ (mem_of_lookupK h)
theorem lookup_relabel_free {sc : Scope} (hk : sc.kind = .function) : ∀ {names : List (Str × NameKind)} {y : Str}, names.lookup y = some .free → sc.names.lookup y = some .cell →
    (names.map fun (n, k) => if (k == NameKind.free && sc.kind == .function && sc.names.lookup n == some .cell) then (n, NameKind.cell) else (n, k)).lookup y = some .cell
  | [], _, h, _ => by exact nos h
  | (x, k) :: r, y, h, hc => by
    rw [List.lookup_cons] at h
    rw [List.map_cons]
    cases hb : y == x with
    | true =>
      rw [hb] at h; obtain rfl := Option.some.inj h
      rw [beq_iff_eq] at hb; subst hb
      simp [hk, hc]
    | false =>
      rw [hb] at h
      dsimp only at h
      have ih := lookup_relabel_free hk h hc
      dsimp only
      split <;> (rw [List.lookup_cons, hb]; exact ih)

noncomputable def compOk (sc scope : Scope) (nm : List Str) (x : Str) (cap : List Nat) : Bool :=
  scope.kind == .function && sc.kind == .function && decide (scope.names.lookup x = some .local) &&
  scope.names.all (fun y => y.2 != .cell) && scope.names.all (fun y => y.2 != .local || decide (scope.names.lookup y.1 = some .local)) &&
  scope.names.all (fun y => y.2 != .free || decide (sc.names.lookup y.1 = some .cell)) &&
  cap.all (fun i => match nm[i]? with | some y => decide (scope.names.lookup y = some .free) && decide (sc.names.lookup y = some .cell) && y != ("__debug__" : Str) && y != ("__classdict__" : Str) | none => false) &&
  x != ("__debug__" : Str) && x != ("__classdict__" : Str)
noncomputable def compNm (nm : List Str) (x : Str) (cap : List Nat) : List Str := x :: cap.map fun i => nm.getD i x
noncomputable def compG (cap : List Nat) (Γ : G) (d : D) : G := some (d, 0) :: cap.map fun i => (Γ[i]?).join
noncomputable def compD (fE : G → Option (R (D × Nat))) (fC : G → Option (R Bool)) (cap : List Nat) (Γ : G) : List D → Option (List D)
  | [] => some []
  | x :: xs => match fC (compG cap Γ x) with
    | some (.ok true) => (match fE (compG cap Γ x) with
      | some (.ok (d, _)) => (compD fE fC cap Γ xs).map (d :: ·)
      | _ => none)
    | some (.ok false) => compD fE fC cap Γ xs
    | _ => none
noncomputable def compF (fE : G → Option (R (D × Nat))) (fC : G → Option (R Bool)) (cap : List Nat) (Γ : G) (xs : List D) : Option (R (D × Nat)) :=
  (compD fE fC cap Γ xs).map fun ds => .ok (.list ds, lvOf ds)
end Mine
namespace Mine
open PySem PySem.Calls PyProof.Rows PySem.SeqAt

theorem list_append {prog : Program} {w : World} {A : Around} {E : Value → Shared → Prop} {s : Shared} {l : Addr} {items : Array Value} {x : Value} {Q : Value → Shared → Prop} (hl : s.heap.IsList l items) (hn : Nd s.heap l)
    (hQ : ∀ h', h'.IsList l (items.push x) → Nd h' l → Heap.SameBut l s.heap h' → Q .none { s with heap := h' }) (hsz : items.size ≤ sizeLine) :
    wpAny (model prog w) A (call (.builtin "list.append") [.ref l, x]) Q E s := by
  obtain ⟨o, ho, hc, n, hd⟩ := id hl
  obtain ⟨o', vs, k, ho', hd0, hdn⟩ := hn
  rw [ho] at ho'; obtain rfl := Option.some.inj ho'
  obtain ⟨n', hd'⟩ := Obj.data_mapSeq hd (·.push x)
  refine wpAny_call_entry slot_list_append hl.typeIs entry_list_append ?_ (args_list_append _ _)
  show wpAny _ _ (updateSeq l (·.push x) >>= fun _ => ret .none) _ _ s
  refine wpAny_bind ?_
  have hg := Heap.get?_update_self (h := s.heap) (Obj.mapSeq (·.push x)) ho (Obj.isFreed_of_seq hd')
  refine wpAny_updateSeq ho hd (wpAny_pure ⟨.none, rfl, hQ _ ?_ ⟨_, _, n', hg, hd', ?_⟩ (Heap.SameBut.update ..)⟩)
  · exact ⟨_, hg, (Obj.cls_mapSeq ..).trans hc, n', hd'⟩
  · obtain ⟨a, b, d, e⟩ := o
    dsimp only at hd hdn
    subst hd; subst hdn
    rfl

section
variable {c : Cx} {hm : Bool} {n : Nat} {sc : Scope} {nm : List Str}

noncomputable def DenT (c : Cx) (hm : Bool) (n : Nat) (sc : Scope) (nm : List Str) (ifs : List Expr) (f : G → Option (R Bool)) : Prop :=
  ∀ (A : Around) (l : List Env) (env : Env) (Γ : G) (vf : Nat → Value × List Addr) (s : Shared) (b : Bool) (Q : Bool → Shared → Prop) (E : Value → Shared → Prop),
    env.scope = sc → Room c hm n A l s.heap → Rd c env nm Γ vf s → f Γ = some (.ok b) →
    (∀ s', St c env.locals s s' → Q b s') →
    wpAny (model c.prog c.w) A (forIn ifs true fun c r => if r = true then do let ok ← isTrue c env (eval c env); pure (ForInStep.yield ok) else pure (ForInStep.yield r)) Q E s
theorem denT_nil : DenT c hm n sc nm [] (fun _ => some (.ok true)) := by
  intro A l env Γ vf s b Q E hsc hR hRd hf hQ
  cases hf
  exact wpAny_tests_nil (hQ _ (St.refl hRd.bs))
theorem denT_one {e : Expr} {f : G → Option (R Bool)} (h : DenB c hm n sc nm e f) : DenT c hm n sc nm [e] f := by
  intro A l env Γ vf s b Q E hsc hR hRd hf hQ
  exact wpAny_tests_one (h A l env Γ vf s _ Q E hsc hR hRd hf (fun b' s' e st => by cases e; exact hQ s' st) fun x k s' e => by cases e)

structure CompI (sc scope : Scope) (nm : List Str) (x : Str) (cap : List Nat) : Prop where
  k1 : scope.kind = .function
  k2 : sc.kind = .function
  k3 : scope.names.lookup x = some .local
  k4 : ∀ y ∈ scope.names, y.2 ≠ .cell
  k5 : ∀ y ∈ scope.names, y.2 = .local → scope.names.lookup y.1 = some .local
  k6 : ∀ y ∈ scope.names, y.2 = .free → sc.names.lookup y.1 = some .cell
  k7 : ∀ i ∈ cap, ∃ y, nm[i]? = some y ∧ scope.names.lookup y = some .free ∧ sc.names.lookup y = some .cell ∧ (y == ("__debug__" : Str)) = false ∧ (y == ("__classdict__" : Str)) = false
  k8 : (x == ("__debug__" : Str)) = false
  k9 : (x == ("__classdict__" : Str)) = false
theorem compOk_inv {sc scope : Scope} {nm : List Str} {x : Str} {cap : List Nat} (h : compOk sc scope nm x cap = true) : CompI sc scope nm x cap := by
  simp only [compOk, Bool.and_eq_true, List.all_eq_true, beq_iff_eq, decide_eq_true_eq, bne_iff_ne, Bool.or_eq_true, ne_eq] at h
  obtain ⟨⟨⟨⟨⟨⟨⟨⟨h1, h2⟩, h3⟩, h4⟩, h5⟩, h6⟩, h7⟩, h8⟩, h9⟩ := h
  refine ⟨h1, h2, h3, h4, fun y hy q => (h5 y hy).resolve_left (fun e => e q), fun y hy q => (h6 y hy).resolve_left (fun e => e q), fun i hi => ?_, by simpa using h8, by simpa using h9⟩
  have := h7 i hi
  split at this
  · rename_i y e
    simp only [Bool.and_eq_true, decide_eq_true_eq, bne_iff_ne, ne_eq] at this
    exact ⟨y, e, this.1.1.1, this.1.1.2, by simpa using this.1.2, by simpa using this.2⟩
  · cases this

theorem relabel_cell_inv {sc : Scope} : ∀ {names : List (Str × NameKind)} {y : Str}, (∀ p ∈ names, p.2 ≠ NameKind.cell) →
    (names.map fun (n, k) => if (k == NameKind.free && sc.kind == .function && sc.names.lookup n == some .cell) then (n, NameKind.cell) else (n, k)).lookup y = some .cell → names.lookup y = some .free
  | [], _, _, h => by exact nos h
  | (x, k) :: r, y, hc, h => by
    rw [List.map_cons] at h
    rw [List.lookup_cons]
    dsimp only at h
    cases hb : y == x with
    | true =>
      split at h
      · rename_i hk
        simp only [Bool.and_eq_true, beq_iff_eq] at hk
        rw [hk.1.1]
      · rw [List.lookup_cons, hb] at h
        obtain rfl := Option.some.inj h
        exact absurd rfl (hc _ (List.mem_cons_self ..))
    | false =>
      have ih := @relabel_cell_inv sc r y (fun p hp => hc p (List.mem_cons_of_mem _ hp))
      split at h <;> (rw [List.lookup_cons, hb] at h; exact ih h)

theorem Kp.thenB {L : Addr} {S : List Addr} {h h₂ h' : Heap} {m : Str → Option Value} (k : Kp L h h₂) (hn : h.Ns L m) (kb : KpB S h₂ h') (hS : ∀ b ∈ S, h.get? b = none) : Kp L h h' := by
  have hb : ∀ b o, h.get? b = some o → b ∉ S := fun b o e hm => by rw [hS b hm] at e; exact nos e
  have hL : L ∉ S := by obtain ⟨o, _, _, e, _⟩ := hn; exact hb L o e
  refine ⟨fun b o q e nd => (kb b o (hb b o e) (k.obj b o q e nd)).1 nd, fun b o q e => ?_, fun m' hm => ?_⟩
  · obtain ⟨sl, e2⟩ := k.dct b o q e
    obtain ⟨sl', e3⟩ := (kb b _ (hb b o e) e2).2
    exact ⟨sl', e3⟩
  · obtain ⟨o, es, ep, h1, h2, h3⟩ := k.ns m' hm
    obtain ⟨sl, h4⟩ := (kb L o hL h1).2
    exact ⟨_, es, ep, h4, h2, h3⟩

-- what is known to go well
theorem Den.ok {e : Expr} {occ : List Nat} {f : G → Option (R (D × Nat))} (h : Den c hm n sc nm e occ f) {A : Around} {l : List Env} {env : Env} {Γ : G} {vf : Nat → Value × List Addr} {s : Shared} {d : D} {lv : Nat} {Q E : Value → Shared → Prop}
    (hsc : env.scope = sc) (hR : Room c hm n A l s.heap) (hRd : Rd c env nm Γ vf s) (hf : f Γ = some (.ok (d, lv)))
    (hQ : ∀ v fp s', St c env.locals s s' → Rp c.mg s'.heap v d fp → Tr s.heap vf occ fp → Lv s.heap s'.heap lv fp → Q v s') : wpAny (model c.prog c.w) A (eval e env) Q E s :=
  h A l env Γ vf s _ Q E hsc hR hRd hf (fun v d' lv' fp s' e => by cases e; exact hQ v fp s') fun _ _ _ e => by cases e
theorem DenIt.ok {e : Expr} {occ : List Nat} {f : G → Option (R (List D))} (h : DenIt c hm n sc nm e occ f) {A : Around} {l : List Env} {env : Env} {Γ : G} {vf : Nat → Value × List Addr} {s : Shared} {xs : List D} {Q E : Value → Shared → Prop}
    (hsc : env.scope = sc) (hR : Room c hm n A l s.heap) (hRd : Rd c env nm Γ vf s) (hf : f Γ = some (.ok xs)) (hQ : ∀ I s', ItOk c hm A env.locals (Tr s.heap vf occ) s xs I s' → Q (.ref I) s') :
    wpAny (model c.prog c.w) A (eval e env) (fun x s₁ => wpAny (model c.prog c.w) A (pyIter x) Q E s₁) E s :=
  h A l env Γ vf s _ Q E hsc hR hRd hf (fun xs' I s' e => by cases e; exact hQ I s') fun _ _ _ e => by cases e
theorem DenIt.exc {e : Expr} {occ : List Nat} {f : G → Option (R (List D))} (h : DenIt c hm n sc nm e occ f) {A : Around} {l : List Env} {env : Env} {Γ : G} {vf : Nat → Value × List Addr} {s : Shared} {k : Str} {Q E : Value → Shared → Prop}
    (hsc : env.scope = sc) (hR : Room c hm n A l s.heap) (hRd : Rd c env nm Γ vf s) (hf : f Γ = some (.exc k)) (hE : ∀ x s', Fly c env.locals l s x k s' → E x s') :
    wpAny (model c.prog c.w) A (eval e env) (fun x s₁ => wpAny (model c.prog c.w) A (pyIter x) Q E s₁) E s :=
  h A l env Γ vf s _ Q E hsc hR hRd hf (fun _ _ _ e => by cases e) fun x k' s' e => by cases e; exact hE x s'
theorem compD_cons {fE : G → Option (R (D × Nat))} {fC : G → Option (R Bool)} {cap : List Nat} {Γ : G} {d : D} {xs rest : List D} (h : compD fE fC cap Γ (d :: xs) = some rest) :
    (fC (compG cap Γ d) = some (.ok false) ∧ compD fE fC cap Γ xs = some rest) ∨ ∃ dE lE rest', fC (compG cap Γ d) = some (.ok true) ∧ fE (compG cap Γ d) = some (.ok (dE, lE)) ∧ compD fE fC cap Γ xs = some rest' ∧ rest = dE :: rest' := by
  rw [compD] at h
  split at h
  · rename_i q
    split at h
    · rename_i q'
      obtain ⟨r', h1, h2⟩ := Option.map_eq_some_iff.mp h
      exact .inr ⟨_, _, r', q, q', h1, h2.symm⟩
    · exact nos h
  · exact .inl ⟨by assumption, h⟩
  · exact nos h
theorem drop_get {α : Type} {xs : List α} {i : Nat} (h : i < xs.length) : ∃ d, xs[i]? = some d ∧ xs.drop i = d :: xs.drop (i + 1) := ⟨xs[i], List.getElem?_eq_getElem h, List.drop_eq_getElem_cons h⟩
noncomputable def SameS (s s' : Shared) : Prop := ∃ h tk, s' = { s with heap := h, toks := tk }
theorem SameS.trans {s s₁ s₂ : Shared} (x : SameS s s₁) (y : SameS s₁ s₂) : SameS s s₂ := by
  obtain ⟨h, tk, rfl⟩ := x
  obtain ⟨h', tk', rfl⟩ := y
  exact ⟨h', tk', rfl⟩
theorem kp_list {L Da : Addr} {h h' : Heap} {ys : Array Value} (k : Kp L h h') (hne : Da ≠ L) (x : h.IsList Da ys) : h'.IsList Da ys := by
  obtain ⟨o, e, hc', q, hd'⟩ := x
  exact ⟨o, k.obj _ o hne e (notDict_of_seq hd'), hc', q, hd'⟩
theorem kp_nd {L Da : Addr} {h h' : Heap} (k : Kp L h h') (hne : Da ≠ L) (x : Nd h Da) : Nd h' Da := by
  obtain ⟨o, vs', k', e, e2, e3⟩ := x
  exact ⟨o, vs', k', k.obj _ o hne e (notDict_of_seq e2), e2, e3⟩
-- what the loop of a comprehension keeps
inductive CInv (c : Cx) (s : Shared) (W : Nat → Heap → Prop) (fp : List Addr) (I Da C : Addr) (h₁ : Heap) (K : Addr → Prop) (F : List D → Option (List D)) (xs total : List D) (s' : Shared) : Nat → Prop
  | mk {i : Nat} {ys : Array Value} {ds rest : List D} {fpS : List Addr} {m' : Str → Option Value} (hsame : SameS s s') (hgd : Gd c s') (hWi : W i s'.heap) (hfpd : ∀ b ∈ fp, b ≠ I → ∃ o, s'.heap.get? b = some o ∧ NotDict o)
      (hys : s'.heap.IsList Da ys) (hyd : Nd s'.heap Da) (hrs : Rps c.mg s'.heap ys.toList ds fpS) (hcd : F (xs.drop i) = some rest) (htot : total = ds ++ rest) (hdl : ds.length ≤ i) (hns : s'.heap.Ns C m') (hkp : KpB [C, Da, I] h₁ s'.heap)
      (hfpS : ∀ a ∈ fpS, K a) (hi : i ≤ xs.length) : CInv c s W fp I Da C h₁ K F xs total s' (xs.length + 1 - i)

theorem comp_core {scope : Scope} {x : Str} {px pos : Pos} {iter elt : Expr} {ifs : List Expr} {cap occI occE : List Nat} {fI : G → Option (R (List D))} {fE : G → Option (R (D × Nat))} {fC : G → Option (R Bool)}
    (hok : compOk sc scope nm x cap = true) (hI : DenIt c hm n sc nm iter occI fI) (hT : DenT c hm n (relabelS scope sc) (compNm nm x cap) ifs fC) (hEl : Den c hm n (relabelS scope sc) (compNm nm x cap) elt occE fE)
    {A : Around} {l : List Env} {env : Env} {Γ : G} {vf : Nat → Value × List Addr} {s : Shared} {r : R (D × Nat)} {E : Value → Shared → Prop} {RR : Value → Addr → Result → Shared → Prop}
    (hsc : env.scope = sc) (hR : Room c hm n A l s.heap) (hRd : Rd c env nm Γ vf s) (hf : bindR (fI Γ) (compF fE fC cap Γ) = some r)
    (hQ : ∀ Da C s' m ds fp, r = .ok (.list ds, lvOf ds) → St c env.locals s s' → Rp c.mg s'.heap (.ref Da) (.list ds) (Da :: fp) → Tr s.heap vf (occI ++ cap) (Da :: fp) → Lv s.heap s'.heap (lvOf ds) (Da :: fp) →
      s'.heap.Ns C m → s.heap.get? C = none → c.base.get? C = none → RR (.ref Da) C (.ok .next) s')
    (hE : ∀ x k s', r = .exc k → Fly c env.locals l s x k s' → E x s') :
    wpAny (model c.prog c.w) A (eval iter env) (fun xv s₁ => wpAny (model c.prog c.w) A (pyIter xv) (fun it s₂ => wpAny (model c.prog c.w) A (newList []) (fun acc s₃ =>
      wpAny (model c.prog c.w) A (newFunctionEnv scope env.globals (closeL env.cells scope.names []) [] env.qual none .none (some env)) (fun cenv s₄ =>
        codeAny (model c.prog c.w) A (.compStart (.ListComp elt [⟨.Name x px, iter, ifs, 0⟩] scope pos) 0 it acc { cenv with scope := relabel scope env }) (RR acc cenv.locals) s₄) E s₃) E s₂) E s₁) E s := by
  obtain ⟨k1, k2, k3, k4, k5, k6, k7, k8, k9⟩ := compOk_inv hok
  obtain ⟨m, hn⟩ := hRd.ns
  rcases (bindR_some hf).symm with ⟨k, hfI, hr⟩ | ⟨xs, hfI, hf⟩
  · exact hI.exc hsc hR hRd hfI fun x s' fl => hE x k s' hr fl
  unfold compF at hf
  obtain ⟨total, hD, hr⟩ := Option.map_eq_some_iff.mp hf
  refine hI.ok hsc hR hRd hfI fun I s₂ it => ?_
  obtain ⟨fp, P, W, fpA, st₂, hW, h0, hIf, hfp, hWI, _, tA, hfA, hlen, hit⟩ := it
  have hIo := hWI 0 _ h0
  -- the list, the names
  refine wpAny_newObj_type (wpAny_newFunctionEnv k4 (by intro y hy; simp at hy) (fun h₁ hns₁ hsb₁ => ?_) k1)
  dsimp only at hns₁ hsb₁ ⊢
  generalize hH2 : s₂.heap.push { cls := .type "list", dict := none, data := .seq ([] : List Value).toArray } = H2 at hns₁ hsb₁ ⊢
  have hC : H2.objs.size = s₂.heap.objs.size + 1 := by rw [← hH2, Heap.size_push]
  have hDC : s₂.heap.objs.size ≠ H2.objs.size := by rw [hC]; exact Nat.ne_of_lt (Nat.lt_succ_self _)
  have below : ∀ b, b < s₂.heap.objs.size → b ≠ H2.objs.size ∧ b ≠ s₂.heap.objs.size := fun b hb => ⟨by rw [hC]; exact Nat.ne_of_lt (Nat.lt_succ_of_lt hb), Nat.ne_of_lt hb⟩
  have old : ∀ b o, s₂.heap.get? b = some o → h₁.get? b = some o := fun b o e => hsb₁.extBut b o (below b (Heap.lt_size e)).1 (Heap.get?_push_of_some _ (hH2 ▸ Heap.get?_push_of_some _ e))
  have hacc : h₁.IsList s₂.heap.objs.size #[] := ⟨_, hsb₁.extBut _ _ hDC (Heap.get?_push_of_some _ (hH2 ▸ Heap.get?_push_size _ rfl)), rfl, _, rfl⟩
  have hacd : Nd h₁ s₂.heap.objs.size := ⟨_, _, _, hsb₁.extBut _ _ hDC (Heap.get?_push_of_some _ (hH2 ▸ Heap.get?_push_size _ rfl)), rfl, rfl⟩
  have hWs : W 0 h₁ := hW.frame _ _ _ h0 fun b _ o e => old b o e
  have fresh2 : ∀ a, s₂.heap.objs.size ≤ a → s₂.heap.get? a = none := fun a ha => Heap.get?_none_of_le ha
  have hCn : s.heap.get? H2.objs.size = none := st₂.kp.gone hn (fresh2 _ (by rw [hC]; exact Nat.le_succ _))
  have hDn : s.heap.get? s₂.heap.objs.size = none := st₂.kp.gone hn (fresh2 _ (Nat.le_refl _))
  have hbn : ∀ a, s.heap.get? a = none → c.base.get? a = none := fun a ha => by
    cases q : c.base.get? a with
    | none => rfl
    | some o => have := hRd.bs.1 a o q; rw [ha] at this; exact nos this
  have hIa : ∃ o, s₂.heap.get? I = some o := by obtain ⟨o, T, e, _⟩ := hIo; exact ⟨o, e⟩
  have hI2 : I ≠ s₂.heap.objs.size ∧ I ≠ H2.objs.size := by obtain ⟨o, e⟩ := hIa; have := below I (Heap.lt_size e); exact ⟨this.2, this.1⟩
  have hfp2 : ∀ b ∈ fp, b ≠ H2.objs.size ∧ b ≠ s₂.heap.objs.size := fun b hb => by
    by_cases q : b = I
    · subst q; exact ⟨hI2.2, hI2.1⟩
    · obtain ⟨o, e, _⟩ := hfp b hb q; exact below b (Heap.lt_size e)
  have hS3 : ∀ b ∈ [H2.objs.size, s₂.heap.objs.size, I], s.heap.get? b = none := by
    intro b hb
    rcases List.mem_cons.mp hb with rfl | hb
    · exact hCn
    · rcases List.mem_cons.mp hb with rfl | hb
      · exact hDn
      · rcases List.mem_cons.mp hb with rfl | hb
        · exact hIf
        · cases hb
  -- the loop
  have loop : codeAny (model c.prog c.w) A (.compLoop (.ListComp elt [⟨.Name x px, iter, ifs, 0⟩] scope pos) 0 (.ref I) (.ref s₂.heap.objs.size) (compEnvC scope (closeL env.cells scope.names []) H2.objs.size env))
      (RR (.ref s₂.heap.objs.size) H2.objs.size) { s₂ with heap := h₁, toks := s₂.toks + ([] : List (Str × Value)).length } := by
    have hkS : ∀ h', KpB [H2.objs.size, s₂.heap.objs.size, I] h₁ h' → Kp env.locals s.heap h' := fun h' kb =>
      st₂.kp.thenB hn ((KpB.of_but (S := [H2.objs.size, s₂.heap.objs.size, I]) fun b o _ e => old b o e).trans kb) hS3
    have hframe : ∀ (i : Nat) (hA hB : Heap), W i hA → KpB [H2.objs.size, s₂.heap.objs.size] hA hB → (∀ b ∈ fp, b ≠ I → ∃ o, hA.get? b = some o ∧ NotDict o) → W i hB := by
      intro i hA hB hWi hk hd
      refine hW.frame _ _ _ hWi fun b hb o e => ?_
      have hnd : NotDict o := by
        by_cases q : b = I
        · subst q
          obtain ⟨o', T, e', nd, _⟩ := hWI i hA hWi
          rw [e] at e'; obtain rfl := Option.some.inj e'; exact nd
        · obtain ⟨o', e', nd⟩ := hd b hb q
          rw [e] at e'; obtain rfl := Option.some.inj e'; exact nd
      exact (hk b o (by simp [hfp2 b hb]) e).1 hnd
    have hfpk : ∀ hA hB : Heap, KpB [H2.objs.size, s₂.heap.objs.size, I] hA hB → (∀ b ∈ fp, b ≠ I → ∃ o, hA.get? b = some o ∧ NotDict o) → ∀ b ∈ fp, b ≠ I → ∃ o, hB.get? b = some o ∧ NotDict o := by
      intro hA hB hk hd b hb q
      obtain ⟨o', e', nd⟩ := hd b hb q
      exact ⟨o', (hk b o' (by simp [hfp2 b hb, q]) e').1 nd, nd⟩
    have hrsk : ∀ (hA hB : Heap) (vs : List Value) (es : List D) (f : List Addr), ItObj hA I → (∃ ys', hA.IsList s₂.heap.objs.size ys') → (∃ m', hA.Ns H2.objs.size m') → KpB [H2.objs.size, s₂.heap.objs.size, I] hA hB → Rps c.mg hA vs es f →
        (∀ a ∈ f, a ≠ s₂.heap.objs.size) → Rps c.mg hB vs es f := by
      rintro hA hB vs es f ⟨oI, TI, e1, e2, e3, e4, e5⟩ ⟨ys', oD, d1, d2, d3⟩ ⟨m', hns'⟩ hk hr hf
      refine hr.keepOn (W := fun b => b = s₂.heap.objs.size ∨ b = I) ?_ ?_ ?_
      · intro b o hb e nd
        have hb' : b ≠ s₂.heap.objs.size ∧ b ≠ I := ⟨fun q => hb (.inl q), fun q => hb (.inr q)⟩
        exact (hk b o (by simp [hb'.1, hb'.2, ns_ne hns' e nd]) e).1 nd
      · rintro b o (rfl | rfl) e
        · rw [d1] at e; obtain rfl := Option.some.inj e; exact ⟨_, d2, by decide⟩
        · rw [e1] at e; obtain rfl := Option.some.inj e; exact ⟨_, e3, e5⟩
      · rintro a ha (q | q)
        · exact hf a ha q
        · obtain ⟨o, vs', k', a1, a2, _⟩ := hr.fp_list a ha
          rw [q, e1] at a1; obtain rfl := Option.some.inj a1
          rw [e3] at a2; cases a2; exact e4 rfl
    refine codeAny_compLoop_tests
      (fun k s' => CInv c s W fp I s₂.heap.objs.size H2.objs.size h₁ (fun a => a ≠ s₂.heap.objs.size ∧ (s.heap.get? a = none ∨ ∃ j ∈ occI ++ cap, a ∈ (vf j).2)) (compD fE fC cap Γ) xs total s' k) ?_ (xs.length + 1) ?_
    · rintro k s' ⟨hsame, hgd, hWi, hfpd, hys, hyd, hrs, hcd, htot, hdl, hns, hkp, hfpS, hi⟩
      rename_i i ys ds rest fpS m'
      have hys' : ys.size = ds.length := by simpa using hrs.length
      by_cases hlt : i < xs.length
      · refine wpAny_with_toks hgd.2 (hW.item i _ _ _ hlt hWi fun v h₂ tk₂ hPv hW₂ hk₂ ht₂ => ?_)
        dsimp only at ht₂
        have hCw : H2.objs.size ∉ [I] := by simp [hI2.2.symm]
        have hDw : s₂.heap.objs.size ∉ [I] := by simp [hI2.1.symm]
        have hns₂ : h₂.Ns H2.objs.size m' := hns.at' fun o e => hk₂ _ o hCw e
        have hkindx : (compEnvC scope (closeL env.cells scope.names []) H2.objs.size env).kindOf x = some .local := by
          show (relabel scope env).names.lookup x = _
          exact lookup_relabel_local k3
        refine wpAny_assign_Name (wpAny_storeName_local hkindx hns₂ (fun h₃ hn₃ hs₃ => ?_) (by simp [compEnvC, relabel, k1]))
        dsimp only at hn₃ hs₃
        have hk3 : KpB [H2.objs.size, s₂.heap.objs.size, I] s'.heap h₃ := (KpB.of_but fun b o hb e => hk₂ b o (fun q => hb (List.mem_cons_of_mem _ (List.mem_cons_of_mem _ q))) e).trans (KpB.of_but fun b o hb e => hs₃.extBut b o (fun q => hb (by rw [q]; exact List.mem_cons_self ..)) e)
        have hk1 := hkp.trans hk3
        have hgd3 : Gd c { s' with heap := h₃, toks := tk₂ + 1 } := by
          refine ⟨fun b o e => ?_, by show 1 ≤ tk₂ + 1; omega⟩
          exact hs₃.extBut b o (fun q => by have q' : b = H2.objs.size := q; rw [q', hbn _ hCn] at e; exact nos e) (hk₂ b o (fun q => by have q' := List.mem_singleton.mp q; rw [q', hbn _ hIf] at e; exact nos e) (hgd.1 b o e))
        have kpS := hkS _ hk1
        obtain ⟨d, hd, hdr⟩ := drop_get hlt
        obtain ⟨g, rg, hg⟩ := hit i v d hPv hd
        -- the item, at this heap
        have hfA3 : ∀ b ∈ fpA, b ≠ H2.objs.size ∧ b ≠ s₂.heap.objs.size ∧ b ≠ I := fun b hb => by
          obtain ⟨o, e, ecls⟩ := hfA b hb
          refine ⟨(below b (Heap.lt_size e)).1, (below b (Heap.lt_size e)).2, fun q => ?_⟩
          obtain ⟨o', T, e', _, eT, ec', _⟩ := hIo
          rw [q, e'] at e; obtain rfl := Option.some.inj e
          rw [eT] at ecls; cases ecls
          exact ec' rfl
        have rg3 : Rp c.mg h₃ v d g := by
          refine Rp.keepOn (W := fun b => b = I) (h := s₂.heap) ?_ ?_ rg (fun a ha => (hfA3 a (hg a ha)).2.2)
          · intro b o hb e nd
            have := below b (Heap.lt_size e)
            exact (hk1 b o (by simp [this.1, this.2, hb]) (old b o e)).1 nd
          · rintro b o rfl e
            obtain ⟨o', T, e', _, eT, _, ec'⟩ := hIo
            rw [e'] at e; obtain rfl := Option.some.inj e
            exact ⟨T, eT, ec'⟩
        -- what the body reads
        have hRd3 : Rd c (compEnvC scope (closeL env.cells scope.names []) H2.objs.size env) (compNm nm x cap) (compG cap Γ d) (fun j => match (compG cap Γ d)[j]? with | some (some _) => (if j = 0 then (v, g) else vf (cap.getD (j - 1) 0)) | _ => (.none, [])) { s' with heap := h₃, toks := tk₂ + 1 } := by
          refine ⟨hgd3, ⟨_, hn₃⟩, hbn _ hCn, by simp [compEnvC, relabel, k1], hRd.gl, hRd.bl, fun y hy => ?_, fun j e lv hj => ?_⟩
          · have hy' : (relabel scope env).names.lookup y = some .cell := hy
            have h1 := relabel_cell_inv (sc := env.scope) k4 hy'
            have h2 := mem_of_lookupK h1
            have h3 := k6 _ h2 rfl
            obtain ⟨a, ha⟩ := hRd.cl y (by rw [hsc]; exact h3)
            exact ⟨a, closeL_lookup ha _ _ (.inl rfl) (.inl h2)⟩
          · cases j with
            | zero =>
              simp only [compG, List.getElem?_cons_zero, Option.some.injEq, Prod.mk.injEq] at hj
              obtain ⟨rfl, rfl⟩ := hj
              exact ⟨x, rfl, ⟨k8, k9, .inl ⟨hkindx, _, hn₃, by simp [compG]⟩⟩, by simpa [compG] using rg3⟩
            | succ j =>
              have hj0 := hj
              simp only [compG, List.getElem?_cons_succ, List.getElem?_map, Option.map_eq_some_iff] at hj
              obtain ⟨i0, h1, h2⟩ := hj
              have h3 : Γ[i0]? = some (some (e, lv)) := by
                cases q : Γ[i0]? with
                | none => rw [q] at h2; exact nos h2
                | some z => rw [q] at h2; rw [show z = some (e, lv) from h2]
              obtain ⟨y, h4, h5, h6⟩ := hRd.var i0 e lv h3
              obtain ⟨y', h7, h8, h9, h10, h11⟩ := k7 i0 (List.mem_of_getElem? h1)
              rw [h4] at h7; obtain rfl := Option.some.inj h7
              refine ⟨y, ?_, ?_, ?_⟩
              · simp only [compNm, List.getElem?_cons_succ, List.getElem?_map, h1, Option.map_some, List.getD_eq_getElem?_getD, h4, Option.getD_some]
              · obtain ⟨_, _, h5⟩ := h5
                have hkc : env.kindOf y = some .cell := by unfold Env.kindOf; rw [hsc]; exact h9
                rcases h5 with ⟨q, _⟩ | ⟨_, cl, hcl, o, ho, hod⟩
                · rw [hkc] at q; cases q
                · refine ⟨h10, h11, .inr ⟨.inl ?_, cl, closeL_lookup hcl _ _ (.inl rfl) (.inl (mem_of_lookupK h8)), o, ?_, ?_⟩⟩
                  · show (relabel scope env).names.lookup y = _
                    exact lookup_relabel_free (sc := env.scope) (by rw [hsc]; exact k2) h8 (by rw [hsc]; exact h9)
                  · exact kpS.keep hn ho (notDict_of_cell hod)
                  · simpa [hj0, h1] using hod
              · have := kpS.rp hn h6
                simpa [hj0, h1] using this
        have hR3 : Room c hm n A l h₃ := hR.keep kpS hn
        rw [hdr] at hcd
        have hsc3 : (compEnvC scope (closeL env.cells scope.names []) H2.objs.size env).scope = relabelS scope sc := by rw [← hsc]; rfl
        have hD3 : h₃.IsList s₂.heap.objs.size ys := by
          obtain ⟨o, e, r⟩ := hys
          exact ⟨o, hs₃.extBut _ o hDC (hk₂ _ o hDw e), r⟩
        have hDd3 : Nd h₃ s₂.heap.objs.size := by
          obtain ⟨o, vs', k', e, r, r'⟩ := hyd
          exact ⟨o, vs', k', hs₃.extBut _ o hDC (hk₂ _ o hDw e), r, r'⟩
        have hIs' := hWI i _ hWi
        have hIh2 := hWI (i + 1) _ hW₂
        have hIh3 : ItObj h₃ I := by
          obtain ⟨o, T, e1, e2, e3, e4, e5⟩ := hIh2
          exact ⟨o, T, hs₃.extBut I o hI2.2 e1, e2, e3, e4, e5⟩
        have hrs3 : ∀ hB : Heap, KpB [H2.objs.size, s₂.heap.objs.size, I] s'.heap hB → Rps c.mg hB ys.toList ds fpS := fun hB hk =>
          hrsk _ _ _ _ _ hIs' ⟨_, hys⟩ ⟨_, hns⟩ hk hrs fun a ha => (hfpS a ha).1
        have hfpd3 := hfpk _ _ hk3 hfpd
        have hk23 : KpB [H2.objs.size, s₂.heap.objs.size] h₂ h₃ := KpB.of_but fun b o hb e => hs₃.extBut b o (fun q => hb (by rw [q]; exact List.mem_cons_self ..)) e
        have hfp_2 : ∀ b ∈ fp, b ≠ I → ∃ o, h₂.get? b = some o ∧ NotDict o := fun b hb q => by
          obtain ⟨o, e, nd⟩ := hfpd b hb q
          exact ⟨o, hk₂ b o (by simp [q]) e, nd⟩
        have hS3' : SameS s { s' with heap := h₃, toks := tk₂ + 1 } := hsame.trans ⟨_, _, rfl⟩
        rcases compD_cons hcd with ⟨hfc, hcd⟩ | ⟨dE, lE, rest', hfc, hfe, hcd', hre⟩
        · refine hT A l _ _ _ _ false _ _ hsc3 hR3 hRd3 hfc fun s₄ st₄ => ?_
          have kp4 : Kp H2.objs.size h₃ s₄.heap := st₄.kp
          refine Exists.intro (xs.length + 1 - (i + 1)) (And.intro (by omega) (CInv.mk (ys := ys) (hS3'.trans st₄.same) st₄.bs ?_ ?_ ?_ ?_ ?_ hcd htot (Nat.le_succ_of_le hdl) (kp4.ns _ hn₃) (hk1.trans (KpB.of_kp kp4 (List.mem_cons_self ..))) hfpS hlt))
          · exact hframe _ _ _ hW₂ (hk23.trans (KpB.of_kp kp4 (List.mem_cons_self ..))) hfp_2
          · exact hfpk _ _ (KpB.of_kp kp4 (List.mem_cons_self ..)) hfpd3
          · exact kp_list kp4 hDC hD3
          · exact kp_nd kp4 hDC hDd3
          · exact hrs3 _ (hk3.trans (KpB.of_kp kp4 (List.mem_cons_self ..)))
        · refine hT A l _ _ _ _ true _ _ hsc3 hR3 hRd3 hfc fun s₄ st₄ => ?_
          have kp4 : Kp H2.objs.size h₃ s₄.heap := st₄.kp
          have hRd4 := hRd3.keep st₄
          refine hEl.ok hsc3 (hR3.keep kp4 hn₃) hRd4 hfe fun y gE s₅ st₅ rE tE lvE => ?_
          have kp5 : Kp H2.objs.size s₄.heap s₅.heap := st₅.kp
          have kp45 := kp4.trans kp5
          have hD5 := kp_list kp45 hDC hD3
          have hDn5 := kp_nd kp45 hDC hDd3
          have hI5 : ItObj s₅.heap I := by
            obtain ⟨o, T, e1, e2, e3, e4, e5⟩ := hIh3
            exact ⟨o, T, kp45.obj _ o hI2.2 e1 e2, e2, e3, e4, e5⟩
          have hn5 := kp45.ns _ hn₃
          have hk5 : KpB [H2.objs.size, s₂.heap.objs.size, I] s'.heap s₅.heap := hk3.trans (KpB.of_kp kp45 (List.mem_cons_self ..))
          have hlim : ys.size ≤ sizeLine := by unfold lim at hlen; unfold sizeLine; omega
          refine list_append hD5 hDn5 (fun h₆ hl₆ hd₆ hs₆ => ?_) hlim
          have hk6 : KpB [H2.objs.size, s₂.heap.objs.size, I] s₅.heap h₆ := KpB.of_but fun b o hb e => hs₆.extBut b o (fun q => hb (by rw [q]; simp)) e
          have hgE : ∀ a ∈ gE, a ≠ s₂.heap.objs.size ∧ (s.heap.get? a = none ∨ ∃ j ∈ occI ++ cap, a ∈ (vf j).2) := by
            intro a ha
            rcases tE a ha with q | ⟨j, hj, q⟩
            · refine ⟨fun q' => ?_, .inl ?_⟩
              · obtain ⟨o, e, hc', q2, hd'⟩ := hD3
                have := kp4.obj _ o hDC e (notDict_of_seq hd')
                rw [q', this] at q; exact son q
              · exact (hkS _ (hk1.trans (KpB.of_kp kp4 (List.mem_cons_self ..)))).gone hn q
            · cases j with
              | zero =>
                have q' : a ∈ g := by simpa [compG] using q
                have := hg a q'
                refine ⟨(hfA3 a this).2.1, ?_⟩
                exact (tA a this).imp id fun ⟨j, h1, h2⟩ => ⟨j, List.mem_append_left _ h1, h2⟩
              | succ j =>
                dsimp only at q
                split at q
                · rename_i z hz
                  simp only [compG, List.getElem?_cons_succ, List.getElem?_map, Option.map_eq_some_iff] at hz
                  obtain ⟨i0, z1, z2⟩ := hz
                  have z3 : Γ[i0]? = some (some z) := by
                    cases w : Γ[i0]? with
                    | none => rw [w] at z2; exact nos z2
                    | some z' => rw [w] at z2; rw [show z' = some z from z2]
                  have q' : a ∈ (vf i0).2 := by simpa [z1] using q
                  obtain ⟨_, _, _, z4⟩ := hRd.var i0 z.1 z.2 z3
                  obtain ⟨o, _, _, z5, _⟩ := z4.fp_list a q'
                  exact ⟨fun w => by (rw [w, hDn] at z5; exact nos z5), .inr ⟨i0, List.mem_append_right _ (List.mem_of_getElem? z1), q'⟩⟩
                · cases q
          refine ⟨xs.length + 1 - (i + 1), by omega, (CInv.mk (ys := ys.push y) (ds := ds ++ [dE]) (fpS := fpS ++ gE) ((hS3'.trans (st₄.same)).trans (SameS.trans st₅.same ⟨_, _, rfl⟩)) ⟨fun b o e => ?_, st₅.bs.2⟩ ?_ ?_ hl₆ hd₆ ?_ hcd' (by rw [htot, hre, List.append_assoc]; rfl) (by rw [List.length_append]; exact Nat.succ_le_succ hdl) (hn5.sameBut hs₆ (Ne.symm hDC)) (hk1.trans ((KpB.of_kp kp45 (List.mem_cons_self ..)).trans hk6)) ?_ hlt)⟩
          · exact hs₆.extBut b o (fun q => by rw [q, hbn _ hDn] at e; exact nos e) (st₅.bs.1 b o e)
          · exact hframe _ _ _ hW₂ (hk23.trans ((KpB.of_kp kp45 (List.mem_cons_self ..)).trans (KpB.of_but fun b o hb e => hs₆.extBut b o (fun q => hb (by rw [q]; simp)) e))) hfp_2
          · exact hfpk _ _ ((KpB.of_kp kp45 (List.mem_cons_self ..)).trans hk6) hfpd3
          · have r1 := hrs3 _ (hk5.trans hk6)
            have r2 := hrsk _ _ [y] [dE] gE hI5 ⟨_, hD5⟩ ⟨_, hn5⟩ hk6 (Rps.one rE) fun a ha => (hgE a ha).1
            simpa using r1.append r2
          · intro a ha
            rcases List.mem_append.mp ha with ha | ha
            · exact hfpS a ha
            · exact hgE a ha
      · have hin : i = xs.length := by omega
        subst hin
        refine wpAny_with_toks hgd.2 (hW.done _ _ _ hWi fun h₂ tk₂ hk₂ ht₂ => ?_)
        rw [List.drop_length] at hcd
        obtain rfl := Option.some.inj hcd
        rw [List.append_nil] at htot
        subst htot
        have hkE : KpB [H2.objs.size, s₂.heap.objs.size, I] s'.heap h₂ := KpB.of_but fun b o hb e => hk₂ b o (fun q => hb (List.mem_cons_of_mem _ (List.mem_cons_of_mem _ q))) e
        have hCw : H2.objs.size ∉ [I] := by simp [hI2.2.symm]
        have hDw : s₂.heap.objs.size ∉ [I] := by simp [hI2.1.symm]
        have rE := hrsk _ _ _ _ _ (hWI _ _ hWi) ⟨_, hys⟩ ⟨_, hns⟩ hkE hrs fun a ha => (hfpS a ha).1
        obtain ⟨o, e1, e2, q, e3⟩ := hys
        have hndE : Nd h₂ s₂.heap.objs.size := by
          obtain ⟨o, vs', k', e, r, r'⟩ := hyd
          exact ⟨o, vs', k', hk₂ _ o hDw e, r, r'⟩
        refine hQ _ _ _ m' _ fpS hr.symm ⟨hsame.trans ⟨_, _, rfl⟩, hkS _ (hkp.trans hkE), fun b o e => hk₂ b o (fun q => by have q' := List.mem_singleton.mp q; rw [q', hbn _ hIf] at e; exact nos e) (hgd.1 b o e), ht₂⟩
          (.list (hk₂ _ o hDw e1) e2 e3 rE) ?_ ?_ (hns.at' fun o e => hk₂ _ o hCw e) hCn (hbn _ hCn)
        · intro a ha
          rcases List.mem_cons.mp ha with rfl | ha
          · exact .inl hDn
          · exact (hfpS a ha).2
        · have hnm : s₂.heap.objs.size ∉ fpS := fun hm => (hfpS _ hm).1 rfl
          unfold lvOf
          split
          · rename_i hfl
            rw [rE.flat_fp hfl]
            exact Lv.one hDn hndE
          · exact ⟨fun _ b t e => by cases e; exact ⟨hDn, hnm, hndE⟩, fun h => absurd h (by omega)⟩
    · refine CInv.mk (i := 0) (ys := #[]) (ds := []) (fpS := []) (SameS.trans st₂.same ⟨_, _, rfl⟩) ⟨fun b o e => old b o (st₂.bs.1 b o e), by show 1 ≤ s₂.toks + 0; exact st₂.bs.2⟩ hWs (fun b hb q => ?_) hacc hacd .nil hD rfl (Nat.le_refl _) hns₁ (KpB.refl _ _) (fun _ h => nomatch h) (Nat.zero_le _)
      obtain ⟨o, e, nd⟩ := hfp b hb q
      exact ⟨o, old b o e, nd⟩
  exact codeAny_compStart_list loop (hW.self 0 _ _ _ hWs loop)
end
end Mine
namespace Mine
open PySem PySem.Calls PyProof.Rows PySem.SeqAt

section
variable {c : Cx} {hm : Bool} {n : Nat} {sc : Scope} {nm : List Str}

theorem let_go {L C : Addr} {s s' : Shared} {h' : Heap} {m m' : Str → Option Value} (hn : s.heap.Ns L m) (st : St c L s s') (hns : s'.heap.Ns C m') (hC : s.heap.get? C = none) (hCb : c.base.get? C = none) (hs' : Heap.SameBut C s'.heap h') :
    St c L s { s' with heap := h' } ∧ (∀ {v d fp}, Rp c.mg s'.heap v d fp → Rp c.mg h' v d fp) ∧ ∀ a, Nd s'.heap a → Nd h' a := by
  have kb : KpB [C] s'.heap h' := KpB.of_but fun b o hb e => hs'.extBut b o (by simpa using hb) e
  refine ⟨⟨?_, st.kp.thenB hn kb (by simpa using hC), ?_, st.bs.2⟩, fun rp => rp.keep fun b o e nd => hs'.extBut b o (ns_ne hns e nd) e, fun a ⟨o, vs, k, h1, h2, h3⟩ => ⟨o, vs, k, hs'.extBut a o (ns_ne hns h1 (notDict_of_seq h2)) h1, h2, h3⟩⟩
  · obtain ⟨hh, tk, q⟩ := st.same; exact ⟨h', s'.toks, by rw [q]⟩
  · intro b o e; exact hs'.extBut b o (fun q => by rw [q, hCb] at e; exact nos e) (st.bs.1 b o e)

theorem den_comp {scope : Scope} {x : Str} {px pos : Pos} {iter elt : Expr} {ifs : List Expr} {occI occE : List Nat} {fI : G → Option (R (List D))} {fE : G → Option (R (D × Nat))} {fC : G → Option (R Bool)} (cap : List Nat)
    (hI : DenIt c hm n sc nm iter occI fI) (hT : DenT c hm n (relabelS scope sc) (compNm nm x cap) ifs fC) (hEl : Den c hm n (relabelS scope sc) (compNm nm x cap) elt occE fE)
    (hok : compOk sc scope nm x cap = true := by kernel_rfl) (hfs : ∀ env v, foldedSetIterable iter env v = pure v := by intro _ _; rfl) :
    Den c hm n sc nm (.ListComp elt [⟨.Name x px, iter, ifs, 0⟩] scope pos) (occI ++ cap) (fun Γ => bindR (fI Γ) (compF fE fC cap Γ)) := by
  intro A l env Γ vf s r Q E hsc hR hRd hf hQ hE
  obtain ⟨m, hn⟩ := hRd.ns
  obtain ⟨k1, k2, k3, k4, k5, k6, k7, k8, k9⟩ := compOk_inv hok
  rw [eval_ListComp]
  refine wpAny_comprehension_free (use := none) rfl (hfs env) (closureFor_eq fun y hy q => hRd.cl y.1 (by rw [hsc]; exact k6 y hy q)) k1 k5 ?_
  refine comp_core hok hI hT hEl hsc hR hRd hf (fun Da C s' m' ds fp e st rp tr lv hns hC hCb => ?_) hE
  refine ⟨m', hns, fun h' hs' => ?_⟩
  have := let_go hn st hns hC hCb hs'
  exact hQ _ _ _ _ _ e this.1 (this.2.1 rp) tr (lv.nd this.2.2)
end
end Mine
namespace Mine
open PySem PySem.Calls PyProof.Rows PySem.SeqAt

-- what is no tuple and no record does not matter, if it is none of the lists read
section
variable {X : Str → Option Value}
theorem Rp.keepM {h h' : Heap} {W : Addr → Prop} (k : ∀ b o, ¬ W b → h.get? b = some o → NotDict o → h'.get? b = some o)
    (kt : ∀ b o vs n, W b → h.get? b = some o → o.cls = .type "tuple" → o.data ≠ .seq vs n) (kf : ∀ b o vs, W b → h.get? b = some o → o.data ≠ .fields vs) {v d fp} (r : Rp X h v d fp) (hw : ∀ a ∈ fp, ¬ W a) : Rp X h' v d fp :=
  (rp_keepN k kt (fun b o vs _ w e _ => kf b o vs w e)).1 r hw
theorem Rps.keepM {h h' : Heap} {W : Addr → Prop} (k : ∀ b o, ¬ W b → h.get? b = some o → NotDict o → h'.get? b = some o)
    (kt : ∀ b o vs n, W b → h.get? b = some o → o.cls = .type "tuple" → o.data ≠ .seq vs n) (kf : ∀ b o vs, W b → h.get? b = some o → o.data ≠ .fields vs) {vs ds fp} (r : Rps X h vs ds fp) (hw : ∀ a ∈ fp, ¬ W a) : Rps X h' vs ds fp :=
  (rp_keepN k kt (fun b o vs _ w e _ => kf b o vs w e)).2 r hw
end

noncomputable def KpP (P : Addr → Prop) (h h' : Heap) : Prop := ∀ b o, ¬ P b → h.get? b = some o → (NotDict o → h'.get? b = some o) ∧ ∃ sl, h'.get? b = some { o with slots := sl }
theorem KpP.refl (P : Addr → Prop) (h : Heap) : KpP P h h := fun _ o _ e => ⟨fun _ => e, o.slots, e⟩
theorem KpP.trans {P Q : Addr → Prop} {h₁ h₂ h₃ : Heap} (x : KpP P h₁ h₂) (y : KpP Q h₂ h₃) (hQ : ∀ b o, h₁.get? b = some o → ¬ P b → ¬ Q b) : KpP P h₁ h₃ := fun b o hb e => by
  obtain ⟨h1, sl, h2⟩ := x b o hb e
  have hq := hQ b o e hb
  obtain ⟨h3, sl', h4⟩ := y b _ hq h2
  exact ⟨fun nd => (y b o hq (h1 nd)).1 nd, sl', h4⟩
theorem KpP.of_but {P : Addr → Prop} {h h' : Heap} (k : ∀ b o, ¬ P b → h.get? b = some o → h'.get? b = some o) : KpP P h h' := fun b o hb e => ⟨fun _ => k b o hb e, o.slots, k b o hb e⟩
theorem KpP.of_kp {P : Addr → Prop} {L : Addr} {h h' : Heap} (k : Kp L h h') (hL : P L) : KpP P h h' := fun b o hb e =>
  ⟨fun nd => k.obj b o (fun q => hb (q ▸ hL)) e nd, k.dct b o (fun q => hb (q ▸ hL)) e⟩
theorem KpP.gone {h h' : Heap} (k : KpP (fun _ => False) h h') {a : Addr} (e : h'.get? a = none) : h.get? a = none := by
  cases q : h.get? a with
  | none => rfl
  | some o => obtain ⟨_, sl, h2⟩ := k a o id q; rw [e] at h2; exact nos h2

noncomputable def Own (Γ : G) (vf : Nat → Value × List Addr) (b : Addr) : Prop :=
  ∃ i d lv, Γ[i]? = some (some (d, lv)) ∧ ((1 ≤ lv ∧ ∃ t, (vf i).2 = b :: t) ∨ (2 ≤ lv ∧ b ∈ (vf i).2))
noncomputable def Mut (env : Env) (Γ : G) (vf : Nat → Value × List Addr) (b : Addr) : Prop := b = env.locals ∨ (∃ x, env.cells.lookup x = some b) ∨ Own Γ vf b

structure Iv (c : Cx) (h₀ : Heap) (f₀ : List Addr) (env : Env) (nm : List Str) (Γ : G) (vf : Nat → Value × List Addr) (s : Shared) : Prop where
  rd : Rd c env nm Γ vf s
  kb : KpP (fun _ => False) h₀ s.heap
  nl : h₀.get? env.locals = none
  ce : ∀ x a, env.cells.lookup x = some a → h₀.get? a = none ∧ ∃ v, s.heap.IsCell a v
  cd : ∀ x y a, env.cells.lookup x = some a → env.cells.lookup y = some a → x = y
  nd : nm.Nodup
  al : ∀ i a, a ∈ (vf i).2 → FpL s.heap a
  org : ∀ i a, a ∈ (vf i).2 → h₀.get? a = none ∨ a ∈ f₀
  own1 : ∀ i d lv, Γ[i]? = some (some (d, lv)) → 1 ≤ lv → ∀ a t, (vf i).2 = a :: t → h₀.get? a = none ∧ a ∉ t ∧ Nd s.heap a ∧ ∀ j, j ≠ i → a ∉ (vf j).2
  own2 : ∀ i d lv, Γ[i]? = some (some (d, lv)) → 2 ≤ lv → (∀ a ∈ (vf i).2, h₀.get? a = none ∧ Nd s.heap a ∧ ∀ j, j ≠ i → a ∉ (vf j).2) ∧ (vf i).2.Nodup
  bh : ∀ b o, c.base.get? b = some o → h₀.get? b = some o

structure Stp (c : Cx) (h₀ : Heap) (f₀ : List Addr) (env : Env) (nm : List Str) (Γ : G) (vf : Nat → Value × List Addr) (s : Shared) (Γ' : G) (vf' : Nat → Value × List Addr) (s' : Shared) : Prop where
  iv : Iv c h₀ f₀ env nm Γ' vf' s'
  same : ∃ h tk, s' = { s with heap := h, toks := tk }
  kp : KpP (Mut env Γ vf) s.heap s'.heap
  gr : ∀ b, Own Γ' vf' b → Own Γ vf b ∨ s.heap.get? b = none
  ex : ∀ b, s'.heap.get? b = none → s.heap.get? b = none

section
variable {c : Cx} {hm : Bool} {n : Nat} {sc : Scope} {nm : List Str} {h₀ : Heap} {f₀ : List Addr} {env : Env} {Γ Γ' Γ'' : G} {vf vf' vf'' : Nat → Value × List Addr} {s s' s'' : Shared}

theorem Own.lst (iv : Iv c h₀ f₀ env nm Γ vf s) {b : Addr} (h : Own Γ vf b) : FpL s.heap b ∧ h₀.get? b = none := by
  obtain ⟨i, d, lv, h1, ⟨h2, t, h3⟩ | ⟨h2, h3⟩⟩ := h
  · exact ⟨iv.al i b (by rw [h3]; exact List.mem_cons_self ..), (iv.own1 i d lv h1 h2 b t h3).1⟩
  · exact ⟨iv.al i b h3, ((iv.own2 i d lv h1 h2).1 b h3).1⟩
theorem Mut.kind (iv : Iv c h₀ f₀ env nm Γ vf s) {b : Addr} {o : Obj} (h : Mut env Γ vf b) (e : s.heap.get? b = some o) :
    (∃ es k, b = env.locals ∧ o.data = .dict es k) ∨ (∃ v, o.data = .cell v) ∨ (Own Γ vf b ∧ o.cls = .type "list" ∧ ∃ vs k, o.data = .seq vs k) := by
  rcases h with rfl | ⟨x, h⟩ | h
  · obtain ⟨m, o', es, ep, h1, h2, _⟩ := iv.rd.ns
    rw [e] at h1; obtain rfl := Option.some.inj h1
    exact .inl ⟨es, ep, rfl, h2⟩
  · obtain ⟨_, v, o', h1, h2⟩ := iv.ce x b h
    rw [e] at h1; obtain rfl := Option.some.inj h1
    exact .inr (.inl ⟨v, h2⟩)
  · obtain ⟨⟨o', vs, k, h1, h2, h3⟩, _⟩ := h.lst iv
    rw [e] at h1; obtain rfl := Option.some.inj h1
    exact .inr (.inr ⟨h, h2, vs, k, h3⟩)
theorem Mut.new (iv : Iv c h₀ f₀ env nm Γ vf s) {b : Addr} (h : Mut env Γ vf b) : h₀.get? b = none := by
  rcases h with rfl | ⟨x, h⟩ | h
  · exact iv.nl
  · exact (iv.ce x b h).1
  · exact (h.lst iv).2
theorem Iv.kb_step (iv : Iv c h₀ f₀ env nm Γ vf s) {h' : Heap} (k : KpP (Mut env Γ vf) s.heap h') : KpP (fun _ => False) h₀ h' :=
  iv.kb.trans k fun b o e _ hM => by rw [hM.new iv] at e; exact nos e
theorem Iv.fresh (iv : Iv c h₀ f₀ env nm Γ vf s) {a : Addr} (e : s.heap.get? a = none) : h₀.get? a = none := iv.kb.gone e
theorem Iv.nb (iv : Iv c h₀ f₀ env nm Γ vf s) {a : Addr} (e : h₀.get? a = none) : c.base.get? a = none := by
  cases q : c.base.get? a with
  | none => rfl
  | some o => have := iv.bh a o q; rw [e] at this; exact nos this

theorem Room.stp {A : Around} {l : List Env} (hR : Room c hm n A l s.heap) (iv : Iv c h₀ f₀ env nm Γ vf s) {h' : Heap} (hns : ∃ m, h'.Ns env.locals m) (k : KpP (Mut env Γ vf) s.heap h') : Room c hm n A l h' := by
  refine ⟨hR.fr, fun e he => ?_, hR.depth, hR.units, ?_⟩
  · obtain ⟨h1, L', o, es, n', h2, h3, h4, h5⟩ := hR.ok e he
    by_cases hL : L' = env.locals
    · subst hL
      obtain ⟨m, o', es', ep, h6, h7, _⟩ := hns
      exact ⟨h1, _, o', es', ep, h2, h3, h6, h7⟩
    · have hM : ¬ Mut env Γ vf L' := fun hM => by
        rcases hM.kind iv h4 with ⟨_, _, q, _⟩ | ⟨v, q⟩ | ⟨_, _, _, _, q⟩
        · exact hL q
        · rw [h5] at q; cases q
        · rw [h5] at q; cases q
      obtain ⟨_, sl, h6⟩ := k L' o hM h4
      exact ⟨h1, _, _, es, n', h2, h3, h6, h5⟩
  · have := hR.hm
    cases hm with
    | false => exact this
    | true =>
      obtain ⟨y, o, vs, h1, h2, h3, h4⟩ := this
      refine ⟨y, o, vs, h1, (k y o (fun hM => ?_) h2).1 (notDict_of_fields h3), h3, h4⟩
      rcases hM.kind iv h2 with ⟨_, _, _, q⟩ | ⟨v, q⟩ | ⟨_, _, _, _, q⟩ <;> (rw [h3] at q; cases q)

theorem Stp.room {A : Around} {l : List Env} (iv : Iv c h₀ f₀ env nm Γ vf s) (st : Stp c h₀ f₀ env nm Γ vf s Γ' vf' s') (hR : Room c hm n A l s.heap) : Room c hm n A l s'.heap := hR.stp iv st.iv.rd.ns st.kp

theorem Stp.trans (x : Stp c h₀ f₀ env nm Γ vf s Γ' vf' s') (y : Stp c h₀ f₀ env nm Γ' vf' s' Γ'' vf'' s'') : Stp c h₀ f₀ env nm Γ vf s Γ'' vf'' s'' := by
  obtain ⟨h, tk, e⟩ := x.same
  obtain ⟨h', tk', e'⟩ := y.same
  refine ⟨y.iv, ⟨h', tk', by rw [e', e]⟩, x.kp.trans y.kp fun b o q hP hM => ?_, fun b hb => ?_, fun b hb => ?_⟩
  · rcases hM with rfl | hM | hM
    · exact hP (.inl rfl)
    · exact hP (.inr (.inl hM))
    · rcases x.gr b hM with w | w
      · exact hP (.inr (.inr w))
      · rw [q] at w; cases w
  · rcases y.gr b hb with w | w
    · exact x.gr b w
    · exact .inr (x.ex b w)
  · exact x.ex b (y.ex b hb)

theorem Iv.keep (iv : Iv c h₀ f₀ env nm Γ vf s) (st : St c env.locals s s') : Iv c h₀ f₀ env nm Γ vf s' := by
  obtain ⟨m, hn⟩ := iv.rd.ns
  refine ⟨iv.rd.keep st, iv.kb_step (KpP.of_kp st.kp (.inl rfl)), iv.nl, fun x a e => ?_, iv.cd, iv.nd, fun i a ha => ?_, iv.org, fun i d lv e q a t r => ?_, fun i d lv e q => ?_, iv.bh⟩
  · obtain ⟨h1, v, o, h2, h3⟩ := iv.ce x a e
    exact ⟨h1, v, o, st.kp.keep hn h2 (notDict_of_cell h3), h3⟩
  · obtain ⟨o, vs, k, h1, h2, h3⟩ := iv.al i a ha
    exact ⟨o, vs, k, st.kp.keep hn h1 (notDict_of_seq h3), h2, h3⟩
  · obtain ⟨h1, h2, h3, h4⟩ := iv.own1 i d lv e q a t r
    exact ⟨h1, h2, h3.keep st.kp hn, h4⟩
  · obtain ⟨h1, h2⟩ := iv.own2 i d lv e q
    exact ⟨fun a ha => ⟨(h1 a ha).1, (h1 a ha).2.1.keep st.kp hn, (h1 a ha).2.2⟩, h2⟩
theorem Iv.step (iv : Iv c h₀ f₀ env nm Γ vf s) (st : St c env.locals s s') : Stp c h₀ f₀ env nm Γ vf s Γ vf s' := by
  obtain ⟨m, hn⟩ := iv.rd.ns
  exact ⟨iv.keep st, st.same, KpP.of_kp st.kp (.inl rfl), fun b hb => .inl hb, fun b hb => st.kp.gone hn hb⟩

-- less is known of the names
noncomputable def Wk (Γ' Γ : G) : Prop := ∀ (j : Nat) (d : D) (lv : Nat), Γ'[j]? = some (some (d, lv)) → ∃ lv', lv ≤ lv' ∧ Γ[j]? = some (some (d, lv'))
theorem Own.wk (h : Wk Γ' Γ) {b : Addr} (o : Own Γ' vf b) : Own Γ vf b := by
  obtain ⟨i, d, lv, h1, h2⟩ := o
  obtain ⟨lv', h3, h4⟩ := h i d lv h1
  exact ⟨i, d, lv', h4, h2.imp (fun ⟨q, r⟩ => ⟨Nat.le_trans q h3, r⟩) fun ⟨q, r⟩ => ⟨Nat.le_trans q h3, r⟩⟩
theorem Iv.wk (iv : Iv c h₀ f₀ env nm Γ vf s) (h : Wk Γ' Γ) : Iv c h₀ f₀ env nm Γ' vf s := by
  refine ⟨⟨iv.rd.bs, iv.rd.ns, iv.rd.nb, iv.rd.fn, iv.rd.gl, iv.rd.bl, iv.rd.cl, fun i d lv e => ?_⟩, iv.kb, iv.nl, iv.ce, iv.cd, iv.nd, iv.al, iv.org, fun i d lv e h1 => ?_, fun i d lv e h1 => ?_, iv.bh⟩
  · obtain ⟨lv', _, h4⟩ := h i d lv e
    exact iv.rd.var i d lv' h4
  · obtain ⟨lv', h3, h4⟩ := h i d lv e
    exact iv.own1 i d lv' h4 (Nat.le_trans h1 h3)
  · obtain ⟨lv', h3, h4⟩ := h i d lv e
    exact iv.own2 i d lv' h4 (Nat.le_trans h1 h3)
theorem Iv.wkS (iv : Iv c h₀ f₀ env nm Γ vf s) (h : Wk Γ' Γ) : Stp c h₀ f₀ env nm Γ vf s Γ' vf s :=
  ⟨iv.wk h, ⟨_, _, rfl⟩, KpP.refl _ _, fun _ hb => .inl (hb.wk h), fun _ hb => hb⟩

/-- one name is given a new value, or its value another shape: what stands then -/
theorem Iv.updI (iv : Iv c h₀ f₀ env nm Γ vf s) (hgd : Gd c s') (hns : ∃ m, s'.heap.Ns env.locals m)
    (hce : ∀ x a, env.cells.lookup x = some a → ∃ v, s'.heap.IsCell a v) (kp : KpP (Mut env Γ vf) s.heap s'.heap) 
    (hal : ∀ j a, a ∈ (vf j).2 → FpL s'.heap a)
    (Γ' : G) (i : Nat) {v : Value} {d : D} {fp : List Addr} {lv : Nat}
    (hG : ∀ j d' lv', Γ'[j]? = some (some (d', lv')) → (j = i ∧ d' = d ∧ lv' = lv) ∨ (j ≠ i ∧ ∃ lv'', lv' ≤ lv'' ∧ Γ[j]? = some (some (d', lv''))))
    (hoth : ∀ j d' lv', j ≠ i → Γ'[j]? = some (some (d', lv')) → ∃ y, nm[j]? = some y ∧ Bd env s'.heap y (vf j).1 ∧ Rp c.mg s'.heap (vf j).1 d' (vf j).2)
    (hi : ∃ x, nm[i]? = some x ∧ Bd env s'.heap x v) (hrp : Rp c.mg s'.heap v d fp) (horg : ∀ a ∈ fp, h₀.get? a = none ∨ a ∈ f₀)
    (ho1 : 1 ≤ lv → ∀ a t, fp = a :: t → h₀.get? a = none ∧ a ∉ t ∧ Nd s'.heap a ∧ ∀ j, j ≠ i → a ∉ (vf j).2)
    (ho2 : 2 ≤ lv → (∀ a ∈ fp, h₀.get? a = none ∧ Nd s'.heap a ∧ ∀ j, j ≠ i → a ∉ (vf j).2) ∧ fp.Nodup) (hnd : ∀ a, Nd s.heap a → Nd s'.heap a)
    (hx : ∀ b, Own Γ vf b → ∀ j d' lv', j ≠ i → Γ'[j]? = some (some (d', lv')) → ((1 ≤ lv' ∧ ∃ t, (vf j).2 = b :: t) ∨ (2 ≤ lv' ∧ b ∈ (vf j).2)) → b ∉ fp) :
    Iv c h₀ f₀ env nm Γ' (fun j => if j = i then (v, fp) else vf j) s' := by
  have hown : ∀ j d' lv' b, j ≠ i → Γ'[j]? = some (some (d', lv')) → ((1 ≤ lv' ∧ ∃ t, (vf j).2 = b :: t) ∨ (2 ≤ lv' ∧ b ∈ (vf j).2)) → Own Γ vf b := by
    intro j d' lv' b hj e h
    rcases hG j d' lv' e with ⟨q, _⟩ | ⟨_, lv'', h1, h2⟩
    · exact absurd q hj
    · exact ⟨j, d', lv'', h2, h.imp (fun ⟨q, r⟩ => ⟨Nat.le_trans q h1, r⟩) fun ⟨q, r⟩ => ⟨Nat.le_trans q h1, r⟩⟩
  refine ⟨⟨hgd, hns, iv.rd.nb, iv.rd.fn, iv.rd.gl, iv.rd.bl, iv.rd.cl, fun j d' lv' e => ?_⟩, iv.kb_step kp, iv.nl, fun x a e => ⟨(iv.ce x a e).1, hce x a e⟩, iv.cd, iv.nd, fun j a ha => ?_, fun j a ha => ?_, fun j d' lv' e h1 a t ht => ?_, fun j d' lv' e h2 => ?_, iv.bh⟩
  · by_cases hj : j = i
    · subst hj
      rcases hG j d' lv' e with ⟨_, rfl, rfl⟩ | ⟨q, _⟩
      · obtain ⟨x, h1, h2⟩ := hi
        simp only [if_true]
        exact ⟨x, h1, h2, hrp⟩
      · exact absurd rfl q
    · simp only [if_neg hj]; exact hoth j d' lv' hj e
  · by_cases hj : j = i
    · subst hj; simp only [if_true] at ha; exact hrp.fp_list a ha
    · simp only [if_neg hj] at ha; exact hal j a ha
  · by_cases hj : j = i
    · subst hj; simp only [if_true] at ha; exact horg a ha
    · simp only [if_neg hj] at ha; exact iv.org j a ha
  · by_cases hj : j = i
    · subst hj
      simp only [if_true] at ht
      rcases hG j d' lv' e with ⟨_, rfl, rfl⟩ | ⟨q, _⟩
      · obtain ⟨w1, w2, w0, w3⟩ := ho1 h1 a t ht
        exact ⟨w1, w2, w0, fun k hk => by simp only [if_neg hk]; exact w3 k hk⟩
      · exact absurd rfl q
    · simp only [if_neg hj] at ht
      rcases hG j d' lv' e with ⟨q, _⟩ | ⟨_, lv'', h3, h4⟩
      · exact absurd q hj
      · obtain ⟨w1, w2, w0, w3⟩ := iv.own1 j d' lv'' h4 (Nat.le_trans h1 h3) a t ht
        refine ⟨w1, w2, hnd a w0, fun k hk => ?_⟩
        by_cases hki : k = i
        · simp only [if_pos hki]
          exact hx a (hown j d' lv' a hj e (.inl ⟨h1, t, ht⟩)) j d' lv' hj e (.inl ⟨h1, t, ht⟩)
        · simp only [if_neg hki]; exact w3 k hk
  · by_cases hj : j = i
    · subst hj
      simp only [if_true]
      rcases hG j d' lv' e with ⟨_, rfl, rfl⟩ | ⟨q, _⟩
      · obtain ⟨w1, w2⟩ := ho2 h2
        exact ⟨fun a ha => ⟨(w1 a ha).1, (w1 a ha).2.1, fun k hk => by simp only [if_neg hk]; exact (w1 a ha).2.2 k hk⟩, w2⟩
      · exact absurd rfl q
    · simp only [if_neg hj]
      rcases hG j d' lv' e with ⟨q, _⟩ | ⟨_, lv'', h3, h4⟩
      · exact absurd q hj
      · obtain ⟨w1, w2⟩ := iv.own2 j d' lv'' h4 (Nat.le_trans h2 h3)
        refine ⟨fun a ha => ⟨(w1 a ha).1, hnd a (w1 a ha).2.1, fun k hk => ?_⟩, w2⟩
        by_cases hki : k = i
        · simp only [if_pos hki]
          exact hx a (hown j d' lv' a hj e (.inr ⟨h2, ha⟩)) j d' lv' hj e (.inr ⟨h2, ha⟩)
        · simp only [if_neg hki]; exact (w1 a ha).2.2 k hk
/-- one name is given a new value, or its value another shape -/
theorem Iv.upd (iv : Iv c h₀ f₀ env nm Γ vf s) (same : ∃ h tk, s' = { s with heap := h, toks := tk }) (hgd : Gd c s') (hns : ∃ m, s'.heap.Ns env.locals m)
    (hce : ∀ x a, env.cells.lookup x = some a → ∃ v, s'.heap.IsCell a v) (kp : KpP (Mut env Γ vf) s.heap s'.heap) (hex : ∀ b, s'.heap.get? b = none → s.heap.get? b = none)
    (hal : ∀ j a, a ∈ (vf j).2 → FpL s'.heap a)
    (Γ' : G) (i : Nat) {v : Value} {d : D} {fp : List Addr} {lv : Nat}
    (hG : ∀ j d' lv', Γ'[j]? = some (some (d', lv')) → (j = i ∧ d' = d ∧ lv' = lv) ∨ (j ≠ i ∧ ∃ lv'', lv' ≤ lv'' ∧ Γ[j]? = some (some (d', lv''))))
    (hoth : ∀ j d' lv', j ≠ i → Γ'[j]? = some (some (d', lv')) → ∃ y, nm[j]? = some y ∧ Bd env s'.heap y (vf j).1 ∧ Rp c.mg s'.heap (vf j).1 d' (vf j).2)
    (hi : ∃ x, nm[i]? = some x ∧ Bd env s'.heap x v) (hrp : Rp c.mg s'.heap v d fp) (horg : ∀ a ∈ fp, h₀.get? a = none ∨ a ∈ f₀)
    (ho1 : 1 ≤ lv → ∀ a t, fp = a :: t → h₀.get? a = none ∧ a ∉ t ∧ Nd s'.heap a ∧ ∀ j, j ≠ i → a ∉ (vf j).2)
    (ho2 : 2 ≤ lv → (∀ a ∈ fp, h₀.get? a = none ∧ Nd s'.heap a ∧ ∀ j, j ≠ i → a ∉ (vf j).2) ∧ fp.Nodup) (hnd : ∀ a, Nd s.heap a → Nd s'.heap a)
    (hx : ∀ b, Own Γ vf b → ∀ j d' lv', j ≠ i → Γ'[j]? = some (some (d', lv')) → ((1 ≤ lv' ∧ ∃ t, (vf j).2 = b :: t) ∨ (2 ≤ lv' ∧ b ∈ (vf j).2)) → b ∉ fp)
    (hg1 : 1 ≤ lv → ∀ a t, fp = a :: t → Own Γ vf a ∨ s.heap.get? a = none) (hg2 : 2 ≤ lv → ∀ a ∈ fp, Own Γ vf a ∨ s.heap.get? a = none) :
    Stp c h₀ f₀ env nm Γ vf s Γ' (fun j => if j = i then (v, fp) else vf j) s' := by
  refine ⟨iv.updI hgd hns hce kp hal Γ' i hG hoth hi hrp horg ho1 ho2 hnd hx, same, kp, fun b hb => ?_, hex⟩
  obtain ⟨j, d', lv', h1, h2⟩ := hb
  by_cases hj : j = i
  · subst hj
    simp only [if_true] at h2
    rcases hG j d' lv' h1 with ⟨_, rfl, rfl⟩ | ⟨q, _⟩
    · rcases h2 with ⟨q1, t, q2⟩ | ⟨q1, q2⟩
      · exact hg1 q1 b t q2
      · exact hg2 q1 b q2
    · exact absurd rfl q
  · simp only [if_neg hj] at h2
    rcases hG j d' lv' h1 with ⟨q, _⟩ | ⟨_, lv'', h3, h4⟩
    · exact absurd q hj
    · exact .inl ⟨j, d', lv'', h4, h2.imp (fun ⟨q, r⟩ => ⟨Nat.le_trans q h3, r⟩) fun ⟨q, r⟩ => ⟨Nat.le_trans q h3, r⟩⟩
end
end Mine
namespace Mine
open PySem PySem.Calls PyProof.Rows PySem.SeqAt

section
variable {c : Cx} {hm : Bool} {n : Nat} {sc : Scope} {nm : List Str} {h₀ : Heap} {f₀ : List Addr} {env : Env} {Γ Γ' Γ'' : G} {vf vf' vf'' : Nat → Value × List Addr} {s s' s'' : Shared}

noncomputable def dropL (occ : List Nat) (Γ : G) : G := Γ.mapIdx fun j v => if occ.contains j then v.map (fun p => (p.1, 0)) else v
theorem dropL_get {occ : List Nat} {Γ : G} {j : Nat} {d : D} {lv : Nat} (h : (dropL occ Γ)[j]? = some (some (d, lv))) :
    ∃ lv', lv ≤ lv' ∧ Γ[j]? = some (some (d, lv')) ∧ (j ∈ occ → lv = 0) := by
  unfold dropL at h
  rw [List.getElem?_mapIdx] at h
  obtain ⟨v, h1, h2⟩ := Option.map_eq_some_iff.mp h
  split at h2
  · rename_i hc
    obtain ⟨⟨d', lv'⟩, h3, h4⟩ := Option.map_eq_some_iff.mp h2
    cases h4
    exact ⟨lv', Nat.zero_le _, by rw [h1, h3], fun _ => rfl⟩
  · rename_i hc
    subst h2
    exact ⟨lv, Nat.le_refl _, h1, fun hj => absurd (by simpa using hj) hc⟩
theorem dropL_wk (occ : List Nat) (Γ : G) : Wk (dropL occ Γ) Γ := fun j d lv h => by
  obtain ⟨lv', h1, h2, _⟩ := dropL_get h
  exact ⟨lv', h1, h2⟩

noncomputable def setV (occ : List Nat) (i : Nat) (a : D × Nat) (Γ : G) : G :=
  if a.1.flat then Γ.set i (some (a.1, 2)) else if 2 ≤ a.2 then Γ.set i (some a) else (dropL occ Γ).set i (some a)

/-- a kind of name that can be stored -/
noncomputable def stK (sc : Scope) (x : Str) : Bool := decide (sc.names.lookup x = some .local) || decide (sc.names.lookup x = some .cell)
noncomputable def okNm (x : Str) : Bool := (x != ("__debug__" : Str)) && (x != ("__classdict__" : Str))

theorem nodup_ne {nm : List Str} (h : nm.Nodup) {i j : Nat} {x y : Str} (hi : nm[i]? = some x) (hj : nm[j]? = some y) (hij : j ≠ i) : y ≠ x := by
  rintro rfl
  obtain ⟨h1, h2⟩ := List.getElem?_eq_some_iff.mp hi
  obtain ⟨h3, h4⟩ := List.getElem?_eq_some_iff.mp hj
  exact hij ((List.getElem_inj (h₀ := h3) (h₁ := h1) h).mp (h4.trans h2.symm))

/-- a value is bound to a name; s₁ stands between -/
theorem storeG {A : Around} {s₁ : Shared} {x : Str} {i : Nat} {v : Value} {d : D} {lv : Nat} {fp : List Addr} {Γb : G} {Q : Unit → Shared → Prop} {E : Value → Shared → Prop}
    (iv : Iv c h₀ f₀ env nm Γ vf s) (st : St c env.locals s s₁) (rp : Rp c.mg s₁.heap v d fp) (hwk : Wk Γb Γ) (horg : ∀ a ∈ fp, h₀.get? a = none ∨ a ∈ f₀)
    (g1 : 1 ≤ lv → ∀ a t, fp = a :: t → s.heap.get? a = none ∧ a ∉ t ∧ Nd s₁.heap a) (g2 : 2 ≤ lv → (∀ a ∈ fp, s.heap.get? a = none ∧ Nd s₁.heap a) ∧ fp.Nodup)
    (hxx : ∀ (b : Addr) (j : Nat) (d' : D) (l' : Nat), j ≠ i → Γb[j]? = some (some (d', l')) → ((1 ≤ l' ∧ ∃ t, (vf j).2 = b :: t) ∨ (2 ≤ l' ∧ b ∈ (vf j).2)) → b ∉ fp)
    (hsc : env.scope = sc) (hx : nm[i]? = some x) (hk : stK sc x = true) (ho : okNm x = true)
    (hQ : ∀ s', Stp c h₀ f₀ env nm Γ vf s (Γb.set i (some (d, lv))) (fun j => if j = i then (v, fp) else vf j) s' → (∀ b o, b ≠ env.locals → (∀ y, env.cells.lookup y ≠ some b) → s₁.heap.get? b = some o → s'.heap.get? b = some o) → Q () s') :
    wpAny (model c.prog c.w) A (storeName env x v) Q E s₁ := by
  obtain ⟨m, hn⟩ := iv.rd.ns
  have iv₁ := iv.keep st
  have hn₁ := st.kp.ns m hn
  have hok : (x == ("__debug__" : Str)) = false ∧ (x == ("__classdict__" : Str)) = false := by
    unfold okNm at ho
    simp only [Bool.and_eq_true, bne_iff_ne, ne_eq] at ho
    exact ⟨by simpa using ho.1, by simpa using ho.2⟩
  have hfresh : ∀ a, s.heap.get? a = none → h₀.get? a = none := fun a ha => iv.fresh ha
  -- what is known whichever way it is stored
  have main : ∀ s', (∃ h tk, s' = { s₁ with heap := h, toks := tk }) → Gd c s' → (∃ m, s'.heap.Ns env.locals m) → (∀ y a, env.cells.lookup y = some a → ∃ v, s'.heap.IsCell a v) →
      (∀ b o, b ≠ env.locals → (∀ y, env.cells.lookup y ≠ some b) → s₁.heap.get? b = some o → s'.heap.get? b = some o) → (∀ b, s'.heap.get? b = none → s₁.heap.get? b = none) →
      Bd env s'.heap x v → (∀ y w, y ≠ x → Bd env s₁.heap y w → Bd env s'.heap y w) → Q () s' := by
    intro s' hsame hgd hns hce hkeep hex hbx hby
    have hW : ∀ b o, s₁.heap.get? b = some o → (b = env.locals ∨ ∃ y, env.cells.lookup y = some b) → (∀ vs k, o.data ≠ .seq vs k) ∧ ∀ vs, o.data ≠ .fields vs := by
      rintro b o e (rfl | ⟨y, hy⟩)
      · obtain ⟨o', es, ep, h1, h2, _⟩ := hn₁
        rw [e] at h1; obtain rfl := Option.some.inj h1
        exact ⟨fun _ _ q => (by rw [h2] at q; cases q), fun _ q => (by rw [h2] at q; cases q)⟩
      · obtain ⟨_, v', o', h1, h2⟩ := iv₁.ce y b hy
        rw [e] at h1; obtain rfl := Option.some.inj h1
        exact ⟨fun _ _ q => (by rw [h2] at q; cases q), fun _ q => (by rw [h2] at q; cases q)⟩
    have hnd : ∀ a, Nd s₁.heap a → Nd s'.heap a := fun a ⟨o, vs, k, h1, h2, h3⟩ => ⟨o, vs, k, hkeep a o (fun q => (hW a o h1 (.inl q)).1 vs k h2) (fun y q => (hW a o h1 (.inr ⟨y, q⟩)).1 vs k h2) h1, h2, h3⟩
    have hrp : ∀ {w e g}, Rp c.mg s₁.heap w e g → Rp c.mg s'.heap w e g := fun {w e g} r => by
      refine r.keepM (W := fun b => b = env.locals ∨ ∃ y, env.cells.lookup y = some b) (fun b o hb e _ => hkeep b o (fun q => hb (.inl q)) (fun y q => hb (.inr ⟨y, q⟩)) e) (fun b o vs k hb e _ => (hW b o e hb).1 vs k) (fun b o vs hb e => (hW b o e hb).2 vs) fun a ha hb => ?_
      obtain ⟨o, vs, k, h1, _, h3⟩ := r.fp_list a ha
      exact (hW a o h1 hb).1 vs k h3
    have kp₁ : KpP (Mut env Γ vf) s.heap s'.heap := (KpP.of_kp st.kp (.inl rfl)).trans (Q := fun b => b = env.locals ∨ ∃ y, env.cells.lookup y = some b)
      (KpP.of_but fun b o hb e => hkeep b o (fun q => hb (.inl q)) (fun y q => hb (.inr ⟨y, q⟩)) e) fun b o _ hP hb => hP (hb.imp id .inl)
    have hal : ∀ j a, a ∈ (vf j).2 → FpL s'.heap a := fun j a ha => by
      obtain ⟨o, vs, k, h1, h2, h3⟩ := iv₁.al j a ha
      refine ⟨o, vs, k, hkeep a o (fun q => ?_) (fun y q => ?_) h1, h2, h3⟩
      · exact (hW a o h1 (.inl q)).1 vs k h3
      · exact (hW a o h1 (.inr ⟨y, q⟩)).1 vs k h3
    have hnew : ∀ a, s.heap.get? a = none → ∀ j, a ∉ (vf j).2 := fun a ha j hj => by
      obtain ⟨o, vs, k, h1, _⟩ := iv.al j a hj
      rw [ha] at h1; exact nos h1
    have same : ∃ h tk, s' = { s with heap := h, toks := tk } := by
      obtain ⟨h, tk, e⟩ := st.same
      obtain ⟨h', tk', e'⟩ := hsame
      exact ⟨h', tk', by rw [e', e]⟩
    have hex' : ∀ b, s'.heap.get? b = none → s.heap.get? b = none := fun b hb => st.kp.gone hn (hex b hb)
    have hset : ∀ (j : Nat) (d' : D) (l' : Nat), (Γb.set i (some (d, lv)))[j]? = some (some (d', l')) → (j = i ∧ d' = d ∧ l' = lv) ∨ (j ≠ i ∧ Γb[j]? = some (some (d', l'))) := by
      intro j d' l' e
      rw [List.getElem?_set] at e
      split at e
      · rename_i q
        split at e
        · cases e; exact .inl ⟨q.symm, rfl, rfl⟩
        · exact nos e
      · rename_i q; exact .inr ⟨fun w => q w.symm, e⟩
    refine hQ s' ?_ hkeep
    refine iv.upd same hgd hns hce kp₁ hex' hal _ i (lv := lv) (d := d) (fun j d' l' e => ?_) (fun j d' l' hj e => ?_) ⟨x, hx, hbx⟩ (hrp rp) horg (fun h1 a t e => ?_) (fun h2 => ?_) (fun a ha => hnd a (ha.keep st.kp hn)) (fun b hb j d' l' hj e h hbf => ?_) (fun h1 a t e => ?_) (fun h2 a ha => ?_)
    · rcases hset j d' l' e with h | ⟨h1, h2⟩
      · exact .inl h
      · obtain ⟨l'', h3, h4⟩ := hwk j d' l' h2
        exact .inr ⟨h1, l'', h3, h4⟩
    · rcases hset j d' l' e with ⟨h, _⟩ | ⟨h1, h2⟩
      · exact absurd h hj
      · obtain ⟨l'', h3, h4⟩ := hwk j d' l' h2
        obtain ⟨y, h5, h6, h7⟩ := iv₁.rd.var j d' l'' h4
        exact ⟨y, h5, hby y _ (nodup_ne iv.nd hx h5 hj) h6, hrp h7⟩
    · obtain ⟨w1, w2, w3⟩ := g1 h1 a t e
      exact ⟨hfresh a w1, w2, hnd a w3, fun j _ => hnew a w1 j⟩
    · obtain ⟨w1, w2⟩ := g2 h2
      exact ⟨fun a ha => ⟨hfresh a (w1 a ha).1, hnd a (w1 a ha).2, fun j _ => hnew a (w1 a ha).1 j⟩, w2⟩
    · rcases hset j d' l' e with ⟨w, _⟩ | ⟨_, w⟩
      · exact hj w
      · exact hxx b j d' l' hj w h hbf
    · exact .inr (g1 h1 a t e).1
    · exact .inr ((g2 h2).1 a ha).1
  have hnbL : ∀ b o, c.base.get? b = some o → b ≠ env.locals := fun b o e q => by rw [q, iv.rd.nb] at e; exact nos e
  unfold stK at hk
  simp only [Bool.or_eq_true, decide_eq_true_eq] at hk
  rcases hk with hk | hk
  · have hkx : env.kindOf x = some .local := by unfold Env.kindOf; rw [hsc]; exact hk
    refine wpAny_storeName_local hkx hn₁ (fun h' hn' hs' => ?_) (by rw [iv.rd.fn]; rfl)
    refine main _ ⟨h', s₁.toks + 1, rfl⟩ ⟨fun b o e => hs'.extBut b o (hnbL b o e) (st.bs.1 b o e), by show 1 ≤ s₁.toks + 1; omega⟩ ⟨_, hn'⟩ (fun y a e => ?_) (fun b o hb _ e => hs'.extBut b o hb e) (fun b hb => ?_) ⟨hok.1, hok.2, .inl ⟨hkx, _, hn', by simp⟩⟩ ?_
    · obtain ⟨_, v', o, h1, h2⟩ := iv₁.ce y a e
      exact ⟨v', o, hs'.extBut a o (ns_ne hn₁ h1 (notDict_of_cell h2)) h1, h2⟩
    · cases q : s₁.heap.get? b with
      | none => rfl
      | some o =>
        by_cases hbL : b = env.locals
        · subst hbL; obtain ⟨o', _, _, h1, _⟩ := hn'; dsimp only at hb; rw [hb] at h1; exact nos h1
        · have := hs'.extBut b o hbL q; dsimp only at hb; rw [hb] at this; exact nos this
    · rintro y w hyx ⟨b1, b2, b3⟩
      refine ⟨b1, b2, ?_⟩
      rcases b3 with ⟨b4, m', b5, b6⟩ | ⟨b4, cl, b5, o, b6, b7⟩
      · refine .inl ⟨b4, _, hn', ?_⟩
        rw [ns_unique b5 hn₁] at b6
        simp [hyx, b6]
      · exact .inr ⟨b4, cl, b5, o, hs'.extBut cl o (ns_ne hn₁ b6 (notDict_of_cell b7)) b6, b7⟩
  · have hkx : env.kindOf x = some .cell := by unfold Env.kindOf; rw [hsc]; exact hk
    obtain ⟨cl, hcl⟩ := iv.rd.cl x (by rw [hsc]; exact hk)
    obtain ⟨hcl0, v₀, hv₀⟩ := iv₁.ce x cl hcl
    refine wpAny_storeName_cell iv.rd.fn hkx hcl hv₀ (fun h' hc' hs' => ?_)
    have hLcl : env.locals ≠ cl := fun q => by
      obtain ⟨o, h1, h2⟩ := hv₀
      exact ns_ne hn₁ h1 (notDict_of_cell h2) q.symm
    have hclb : ∀ b o, c.base.get? b = some o → b ≠ cl := fun b o e q => by
      rw [q, iv.nb hcl0] at e; exact nos e
    refine main _ ⟨h', s₁.toks, rfl⟩ ⟨fun b o e => hs'.extBut b o (hclb b o e) (st.bs.1 b o e), st.bs.2⟩ ⟨_, hn₁.at' fun o e => hs'.extBut _ o hLcl e⟩ (fun y a e => ?_) (fun b o _ hb e => hs'.extBut b o (fun q => hb x (q ▸ hcl)) e) (fun b hb => ?_) ⟨hok.1, hok.2, .inr ⟨.inl hkx, cl, hcl, hc'⟩⟩ ?_
    · by_cases q : a = cl
      · subst q; exact ⟨_, hc'⟩
      · obtain ⟨_, v', o, h1, h2⟩ := iv₁.ce y a e
        exact ⟨v', o, hs'.extBut a o q h1, h2⟩
    · cases q : s₁.heap.get? b with
      | none => rfl
      | some o =>
        by_cases hbL : b = cl
        · subst hbL; obtain ⟨o', h1, _⟩ := hc'; dsimp only at hb; rw [hb] at h1; exact nos h1
        · have := hs'.extBut b o hbL q; dsimp only at hb; rw [hb] at this; exact nos this
    · rintro y w hyx ⟨b1, b2, b3⟩
      refine ⟨b1, b2, ?_⟩
      rcases b3 with ⟨b4, m', b5, b6⟩ | ⟨b4, cl', b5, o, b6, b7⟩
      · exact .inl ⟨b4, m', b5.at' fun o e => hs'.extBut _ o hLcl e, b6⟩
      · exact .inr ⟨b4, cl', b5, o, hs'.extBut cl' o (fun q => hyx (iv.cd y x cl (q ▸ b5) hcl)) b6, b7⟩

theorem store {A : Around} {s₁ : Shared} {x : Str} {i : Nat} {occ : List Nat} {v : Value} {d : D} {lv : Nat} {fp : List Addr} {Q : Unit → Shared → Prop} {E : Value → Shared → Prop}
    (iv : Iv c h₀ f₀ env nm Γ vf s) (st : St c env.locals s s₁) (rp : Rp c.mg s₁.heap v d fp) (tr : Tr s.heap vf occ fp) (lvl : Lv s.heap s₁.heap lv fp)
    (hsc : env.scope = sc) (hx : nm[i]? = some x) (hk : stK sc x = true) (ho : okNm x = true)
    (hQ : ∀ s', Stp c h₀ f₀ env nm Γ vf s (setV occ i (d, lv) Γ) (fun j => if j = i then (v, fp) else vf j) s' → (∀ b o, b ≠ env.locals → (∀ y, env.cells.lookup y ≠ some b) → s₁.heap.get? b = some o → s'.heap.get? b = some o) → Q () s') :
    wpAny (model c.prog c.w) A (storeName env x v) Q E s₁ := by
  have hfp : ∀ a ∈ fp, h₀.get? a = none ∨ a ∈ f₀ := fun a ha => by
    rcases tr a ha with q | ⟨j, _, q⟩
    · exact .inl (iv.fresh q)
    · exact iv.org j a q
  have hex : ∀ (b : Addr) (j : Nat) (d' : D) (l' : Nat) (Γb : G), Wk Γb Γ → Γb[j]? = some (some (d', l')) → ((1 ≤ l' ∧ ∃ t, (vf j).2 = b :: t) ∨ (2 ≤ l' ∧ b ∈ (vf j).2)) → ∃ o, s.heap.get? b = some o := fun b j d' l' Γb hwk e h => by
    have hb : b ∈ (vf j).2 := by
      rcases h with ⟨_, t, q⟩ | ⟨_, q⟩
      · rw [q]; exact List.mem_cons_self ..
      · exact q
    obtain ⟨o, _, _, z, _⟩ := iv.al j b hb
    exact ⟨o, z⟩
  have wk0 : Wk Γ Γ := fun j d l e => ⟨l, Nat.le_refl _, e⟩
  unfold setV at hQ
  split at hQ
  · rename_i hfl
    have hnil := rp.flat_fp hfl
    refine storeG iv st rp wk0 hfp (fun _ a t e => ?_) (fun _ => ?_) (fun b j d' l' hj e h hb => ?_) hsc hx hk ho hQ
    · rw [hnil] at e; cases e
    · rw [hnil]; exact ⟨fun _ h => (nomatch h), .nil⟩
    · rw [hnil] at hb; cases hb
  · split at hQ
    · rename_i h2
      refine storeG iv st rp wk0 hfp lvl.1 lvl.2 (fun b j d' l' hj e h hb => ?_) hsc hx hk ho hQ
      obtain ⟨o, z⟩ := hex b j d' l' Γ wk0 e h
      rw [((lvl.2 h2).1 b hb).1] at z; exact nos z
    · refine storeG iv st rp (dropL_wk occ Γ) hfp lvl.1 lvl.2 (fun b j d' l' hj e h hb => ?_) hsc hx hk ho hQ
      obtain ⟨o, z⟩ := hex b j d' l' _ (dropL_wk occ Γ) e h
      obtain ⟨l'', h3, h4, h5⟩ := dropL_get e
      rcases tr b hb with q | ⟨j', hj', q⟩
      · rw [z] at q; exact son q
      · have hjo : j' ≠ j := fun w' => by
          subst w'
          have := h5 hj'
          rcases h with ⟨w1, _⟩ | ⟨w1, _⟩ <;> omega
        rcases h with ⟨w1, t, w2⟩ | ⟨w1, w2⟩
        · exact (iv.own1 j d' l'' h4 (Nat.le_trans w1 h3) b t w2).2.2.2 j' hjo q
        · exact ((iv.own2 j d' l'' h4 (Nat.le_trans w1 h3)).1 b w2).2.2 j' hjo q
end
end Mine
namespace Mine
open PySem PySem.Calls PyProof.Rows PySem.SeqAt

/-- what a statement ends in -/
inductive O where
  | next (Γ : G)
  | brk (Γ : G)
  | cont (Γ : G)
  | ret (d : D) (lv : Nat)
  | exc (k : Str) (Γ : G)
  | raise (k : Str)

structure RetP (c : Cx) (h₀ : Heap) (f₀ : List Addr) (env : Env) (Γ : G) (vf : Nat → Value × List Addr) (s : Shared) (d : D) (lv : Nat) (v : Value) (s' : Shared) : Prop where
  same : ∃ h tk, s' = { s with heap := h, toks := tk }
  kp : KpP (Mut env Γ vf) s.heap s'.heap
  kb : KpP (fun _ => False) h₀ s'.heap
  gd : Gd c s'
  ns : ∃ m, s'.heap.Ns env.locals m
  rp : ∃ fp, Rp c.mg s'.heap v d fp ∧ (∀ a ∈ fp, h₀.get? a = none ∨ a ∈ f₀) ∧ Lv h₀ s'.heap lv fp

structure RaiseP (c : Cx) (h₀ : Heap) (l : List Env) (env : Env) (Γ : G) (vf : Nat → Value × List Addr) (s : Shared) (k : Str) (x : Value) (s' : Shared) : Prop where
  same : ∃ h tk, s' = { s with heap := h, toks := tk }
  gd : Gd c s'
  made : ∃ h e C args, x = .ref e ∧ c.mg k = some (.ref C) ∧ Heap.MadeExcOf h s'.heap e (.ref C) args ∧ KpP (fun _ => False) h₀ h ∧ c.base.StaysIn h ∧ FrOk c l h

noncomputable def Post (c : Cx) (h₀ : Heap) (f₀ : List Addr) (env : Env) (nm : List Str) (Γ : G) (vf : Nat → Value × List Addr) (s : Shared) : O → Flow → Shared → Prop
  | .next Γ', .next, s' => ∃ vf', Stp c h₀ f₀ env nm Γ vf s Γ' vf' s'
  | .brk Γ', .brk, s' => ∃ vf', Stp c h₀ f₀ env nm Γ vf s Γ' vf' s'
  | .cont Γ', .cont, s' => ∃ vf', Stp c h₀ f₀ env nm Γ vf s Γ' vf' s'
  | .ret d lv, .ret v, s' => RetP c h₀ f₀ env Γ vf s d lv v s'
  | _, _, _ => False
noncomputable def PostE (c : Cx) (l : List Env) (h₀ : Heap) (f₀ : List Addr) (env : Env) (nm : List Str) (Γ : G) (vf : Nat → Value × List Addr) (s : Shared) : O → Value → Shared → Prop
  | .exc k Γ', x, s' => ∃ vf' s₁, Stp c h₀ f₀ env nm Γ vf s Γ' vf' s₁ ∧ Fly c env.locals l s₁ x k s'
  | .raise k, x, s' => RaiseP c h₀ l env Γ vf s k x s'
  | _, _, _ => False

section
variable {c : Cx} {hm : Bool} {n : Nat} {sc : Scope} {nm : List Str} {h₀ : Heap} {f₀ : List Addr} {env : Env} {Γ Γ' Γ'' : G} {vf vf' vf'' : Nat → Value × List Addr} {s s' s'' : Shared}

theorem Stp.mut (x : Stp c h₀ f₀ env nm Γ vf s Γ' vf' s') : ∀ b o, s.heap.get? b = some o → ¬ Mut env Γ vf b → ¬ Mut env Γ' vf' b := fun b o q hP hM => by
  rcases hM with rfl | hM | hM
  · exact hP (.inl rfl)
  · exact hP (.inr (.inl hM))
  · rcases x.gr b hM with w | w
    · exact hP (.inr (.inr w))
    · rw [q] at w; cases w
theorem Post.back (x : Stp c h₀ f₀ env nm Γ vf s Γ' vf' s') {o : O} {f : Flow} (p : Post c h₀ f₀ env nm Γ' vf' s' o f s'') : Post c h₀ f₀ env nm Γ vf s o f s'' := by
  unfold Post at p ⊢
  split at p
  · obtain ⟨v, p⟩ := p; exact ⟨v, x.trans p⟩
  · obtain ⟨v, p⟩ := p; exact ⟨v, x.trans p⟩
  · obtain ⟨v, p⟩ := p; exact ⟨v, x.trans p⟩
  · obtain ⟨h, tk, e⟩ := x.same
    obtain ⟨h', tk', e'⟩ := p.same
    exact ⟨⟨h', tk', by rw [e', e]⟩, x.kp.trans p.kp x.mut, p.kb, p.gd, p.ns, p.rp⟩
  · cases p
theorem PostE.back {l : List Env} (x : Stp c h₀ f₀ env nm Γ vf s Γ' vf' s') {o : O} {y : Value} (p : PostE c l h₀ f₀ env nm Γ' vf' s' o y s'') : PostE c l h₀ f₀ env nm Γ vf s o y s'' := by
  unfold PostE at p ⊢
  split at p
  · obtain ⟨v, s₁, p, q⟩ := p; exact ⟨v, s₁, x.trans p, q⟩
  · obtain ⟨h, tk, e⟩ := x.same
    obtain ⟨h', tk', e'⟩ := p.same
    exact ⟨⟨h', tk', by rw [e', e]⟩, p.gd, p.made⟩
  · cases p

/-- the frame of a def: its scope, and that it stands topmost -/
noncomputable def ScF (env : Env) (sc : Scope) (l : List Env) : Prop := env.scope = sc ∧ l.head? = some env ∧ env.frame = some env.locals

noncomputable def DenS (c : Cx) (hm : Bool) (n : Nat) (sc : Scope) (nm : List Str) (st : Stmt) (f : G → Option O) : Prop :=
  ∀ (A : Around) (l : List Env) (env : Env) (h₀ : Heap) (f₀ : List Addr) (Γ : G) (vf : Nat → Value × List Addr) (s : Shared) (r : O) (Q : Flow → Shared → Prop) (E : Value → Shared → Prop),
    ScF env sc l → Room c hm n A l s.heap → Iv c h₀ f₀ env nm Γ vf s → f Γ = some r →
    (∀ w s', Post c h₀ f₀ env nm Γ vf s r w s' → Q w s') → (∀ x s', PostE c l h₀ f₀ env nm Γ vf s r x s' → E x s') →
    wpAny (model c.prog c.w) A (exec st env) Q E s
noncomputable def DenSs (c : Cx) (hm : Bool) (n : Nat) (sc : Scope) (nm : List Str) (st : List Stmt) (f : G → Option O) : Prop :=
  ∀ (A : Around) (l : List Env) (env : Env) (h₀ : Heap) (f₀ : List Addr) (Γ : G) (vf : Nat → Value × List Addr) (s : Shared) (r : O) (Q : Flow → Shared → Prop) (E : Value → Shared → Prop),
    ScF env sc l → Room c hm n A l s.heap → Iv c h₀ f₀ env nm Γ vf s → f Γ = some r →
    (∀ w s', Post c h₀ f₀ env nm Γ vf s r w s' → Q w s') → (∀ x s', PostE c l h₀ f₀ env nm Γ vf s r x s' → E x s') →
    wpAny (model c.prog c.w) A (execs st env) Q E s

noncomputable def bindO (x : Option O) (f : G → Option O) : Option O :=
  match x with
  | some (.next Γ) => f Γ
  | r => r
@[simp] theorem bindO_next (Γ : G) (f : G → Option O) : bindO (some (.next Γ)) f = f Γ := rfl
@[simp] theorem bindO_ret (d : D) (lv : Nat) (f : G → Option O) : bindO (some (.ret d lv)) f = some (.ret d lv) := rfl
@[simp] theorem bindO_brk (Γ : G) (f : G → Option O) : bindO (some (.brk Γ)) f = some (.brk Γ) := rfl
@[simp] theorem bindO_cont (Γ : G) (f : G → Option O) : bindO (some (.cont Γ)) f = some (.cont Γ) := rfl
@[simp] theorem bindO_exc (k : Str) (Γ : G) (f : G → Option O) : bindO (some (.exc k Γ)) f = some (.exc k Γ) := rfl
@[simp] theorem bindO_raise (k : Str) (f : G → Option O) : bindO (some (.raise k)) f = some (.raise k) := rfl
@[simp] theorem bindO_none (f : G → Option O) : bindO none f = none := rfl

/-- what comes of an expression goes on as a statement; an exception leaves the names as they are -/
noncomputable def bindE {α : Type} (x : Option (R α)) (Γ : G) (f : α → Option O) : Option O :=
  match x with
  | some (.ok a) => f a
  | some (.exc k) => some (.exc k Γ)
  | none => none
@[simp] theorem bindE_ok {α : Type} (a : α) (Γ : G) (f : α → Option O) : bindE (some (.ok a)) Γ f = f a := rfl
@[simp] theorem bindE_exc {α : Type} (k : Str) (Γ : G) (f : α → Option O) : bindE (some (.exc k)) Γ f = some (.exc k Γ) := rfl
@[simp] theorem bindE_none {α : Type} (Γ : G) (f : α → Option O) : bindE none Γ f = none := rfl
theorem bindE_some {α : Type} {x : Option (R α)} {Γ : G} {f : α → Option O} {r : O} (h : bindE x Γ f = some r) : (∃ a, x = some (.ok a) ∧ f a = some r) ∨ ∃ k, x = some (.exc k) ∧ r = .exc k Γ := by
  unfold bindE at h
  split at h
  · exact .inl ⟨_, rfl, h⟩
  · exact .inr ⟨_, rfl, (Option.some.inj h).symm⟩
  · exact nos h

theorem Den.runS {e : Expr} {occ : List Nat} {f : G → Option (R (D × Nat))} (hd : Den c hm n sc nm e occ f) {g : D × Nat → Option O} {r : O}
    {A : Around} {l : List Env} {Q : Value → Shared → Prop} {E : Value → Shared → Prop}
    (hsc : env.scope = sc) (hR : Room c hm n A l s.heap) (iv : Iv c h₀ f₀ env nm Γ vf s) (hx : bindE (f Γ) Γ g = some r)
    (hok : ∀ d lv, f Γ = some (.ok (d, lv)) → g (d, lv) = some r → ∀ v fp s', St c env.locals s s' → Rp c.mg s'.heap v d fp → Tr s.heap vf occ fp → Lv s.heap s'.heap lv fp → Q v s')
    (hexc : ∀ x s', PostE c l h₀ f₀ env nm Γ vf s r x s' → E x s') : wpAny (model c.prog c.w) A (eval e env) Q E s := by
  rcases bindE_some hx with ⟨⟨d, lv⟩, h1, h2⟩ | ⟨k, h1, rfl⟩
  · exact hd A l env Γ vf s _ Q E hsc hR iv.rd h1 (fun v d' lv' fp s' e st rp tr lvl => by cases e; exact hok d lv h1 h2 v fp s' st rp tr lvl) fun x k s' e => by cases e
  · exact hd A l env Γ vf s _ Q E hsc hR iv.rd h1 (fun v d' lv' fp s' e => by cases e) fun x k' s' e fl => by cases e; exact hexc x s' ⟨vf, s, iv.step (St.refl iv.rd.bs), fl⟩
theorem DenB.runS {e : Expr} {f : G → Option (R Bool)} (hd : DenB c hm n sc nm e f) {g : Bool → Option O} {r : O}
    {A : Around} {l : List Env} {Q : Bool → Shared → Prop} {E : Value → Shared → Prop}
    (hsc : env.scope = sc) (hR : Room c hm n A l s.heap) (iv : Iv c h₀ f₀ env nm Γ vf s) (hx : bindE (f Γ) Γ g = some r)
    (hok : ∀ b, f Γ = some (.ok b) → g b = some r → ∀ s', St c env.locals s s' → Q b s')
    (hexc : ∀ x s', PostE c l h₀ f₀ env nm Γ vf s r x s' → E x s') : wpAny (model c.prog c.w) A (isTrue e env (eval e env)) Q E s := by
  rcases bindE_some hx with ⟨b, h1, h2⟩ | ⟨k, h1, rfl⟩
  · exact hd A l env Γ vf s _ Q E hsc hR iv.rd h1 (fun b' s' e st => by cases e; exact hok b h1 h2 s' st) fun x k s' e => by cases e
  · exact hd A l env Γ vf s _ Q E hsc hR iv.rd h1 (fun v s' e => by cases e) fun x k' s' e fl => by cases e; exact hexc x s' ⟨vf, s, iv.step (St.refl iv.rd.bs), fl⟩

theorem denSs_nil : DenSs c hm n sc nm [] (fun Γ => some (.next Γ)) := by
  intro A l env h₀ f₀ Γ vf s r Q E hsF hR iv hf hQ hE
  have hsc := hsF.1
  obtain rfl := Option.some.inj hf
  exact wpAny_execs_nil (hQ _ _ ⟨vf, iv.step (St.refl iv.rd.bs)⟩)
theorem denSs_cons {st : Stmt} {rest : List Stmt} {f g : G → Option O} (h1 : DenS c hm n sc nm st f) (h2 : DenSs c hm n sc nm rest g) : DenSs c hm n sc nm (st :: rest) (fun Γ => bindO (f Γ) g) := by
  intro A l env h₀ f₀ Γ vf s r Q E hsF hR iv hf hQ hE
  have hsc := hsF.1
  refine wpAny_execs_cons ?_
  dsimp only at hf
  cases hfs : f Γ with
  | none => rw [hfs] at hf; exact nos hf
  | some o =>
    rw [hfs] at hf
    cases o with
    | next Γ' =>
      refine h1 A l env h₀ f₀ Γ vf s _ _ E hsF hR iv hfs (fun w s' p => ?_) (fun x s' p => p.elim)
      cases w <;> first | exact p.elim | skip
      obtain ⟨vf', p⟩ := p
      exact h2 A l env h₀ f₀ Γ' vf' s' r Q E hsF (p.room iv hR) p.iv hf (fun w s'' q => hQ w s'' (q.back p)) (fun x s'' q => hE x s'' (q.back p))
    | brk Γ' => cases hf; exact h1 A l env h₀ f₀ Γ vf s _ _ E hsF hR iv hfs (fun w s' p => by cases w <;> first | exact p.elim | exact hQ _ _ p) hE
    | cont Γ' => cases hf; exact h1 A l env h₀ f₀ Γ vf s _ _ E hsF hR iv hfs (fun w s' p => by cases w <;> first | exact p.elim | exact hQ _ _ p) hE
    | ret d lv => cases hf; exact h1 A l env h₀ f₀ Γ vf s _ _ E hsF hR iv hfs (fun w s' p => by cases w <;> first | exact p.elim | exact hQ _ _ p) hE
    | exc k Γ' => obtain rfl := Option.some.inj hf; exact h1 A l env h₀ f₀ Γ vf s _ _ E hsF hR iv hfs (fun w s' p => p.elim) hE
    | raise k => obtain rfl := Option.some.inj hf; exact h1 A l env h₀ f₀ Γ vf s _ _ E hsF hR iv hfs (fun w s' p => p.elim) hE

theorem denS_assign {x : Str} {e : Expr} {p pos : Pos} {occ : List Nat} {f : G → Option (R (D × Nat))} (i : Nat) (h : Den c hm n sc nm e occ f) (hx : nm[i]? = some x := by rfl) (hk : stK sc x = true := by kernel_rfl) (ho : okNm x = true := by kernel_rfl)
    (hs : ∀ env : Env, env.scope = sc → swapsWith e (some (.Name x p)) pos.line env = pure false := by intro _ _; rfl) :
    DenS c hm n sc nm (.Assign [.Name x p] e pos) (fun Γ => bindE (f Γ) Γ fun a => some (.next (setV occ i a Γ))) := by
  intro A l env h₀ f₀ Γ vf s r Q E hsF hR iv hf hQ hE
  have hsc := hsF.1
  refine wpAny_Assign_Name (h.runS hsc hR iv hf (fun d lv _ hf v fp s₁ st rp tr lvl => ?_) hE) (hs env hsc)
  obtain rfl := Option.some.inj hf
  exact store iv st rp tr lvl hsc hx hk ho fun s' sp _ => hQ _ _ ⟨_, sp⟩

theorem denS_if {test : Expr} {body orelse : List Stmt} {pos : Pos} {f : G → Option (R Bool)} {g k : G → Option O} (h : DenB c hm n sc nm test f) (h1 : DenSs c hm n sc nm body g) (h2 : DenSs c hm n sc nm orelse k) :
    DenS c hm n sc nm (.If test body orelse pos) (fun Γ => bindE (f Γ) Γ fun b => if b then g Γ else k Γ) := by
  intro A l env h₀ f₀ Γ vf s r Q E hsF hR iv hf hQ hE
  have hsc := hsF.1
  refine wpAny_If (h.runS hsc hR iv hf (fun b _ hf s₁ st => ?_) hE)
  have sp := iv.step st
  cases b with
  | true => exact h1 A l env h₀ f₀ Γ vf s₁ r Q E hsF (sp.room iv hR) sp.iv hf (fun w s'' q => hQ w s'' (q.back sp)) (fun x s'' q => hE x s'' (q.back sp))
  | false => exact h2 A l env h₀ f₀ Γ vf s₁ r Q E hsF (sp.room iv hR) sp.iv hf (fun w s'' q => hQ w s'' (q.back sp)) (fun x s'' q => hE x s'' (q.back sp))

theorem ret_of {d : D} {lv : Nat} {v : Value} {fp occ} {s₁ : Shared} (iv : Iv c h₀ f₀ env nm Γ vf s) (st : St c env.locals s s₁) (rp : Rp c.mg s₁.heap v d fp) (tr : Tr s.heap vf occ fp) (lvl : Lv s.heap s₁.heap lv fp) : RetP c h₀ f₀ env Γ vf s d lv v s₁ := by
  refine ⟨st.same, KpP.of_kp st.kp (.inl rfl), (iv.keep st).kb, st.bs, (iv.keep st).rd.ns, fp, rp, fun a ha => ?_, lvl.back fun a ha => iv.fresh ha⟩
  rcases tr a ha with q | ⟨j, _, q⟩
  · exact .inl (iv.fresh q)
  · exact iv.org j a q
theorem denS_return {e : Expr} {pos : Pos} {occ : List Nat} {f : G → Option (R (D × Nat))} (h : Den c hm n sc nm e occ f) : DenS c hm n sc nm (.Return (some e) pos) (fun Γ => bindE (f Γ) Γ fun a => some (.ret a.1 a.2)) := by
  intro A l env h₀ f₀ Γ vf s r Q E hsF hR iv hf hQ hE
  have hsc := hsF.1
  refine wpAny_Return_some (h.runS hsc hR iv hf (fun d lv _ hf v fp s₁ st rp tr lvl => ?_) hE)
  obtain rfl := Option.some.inj hf
  exact hQ _ _ (ret_of iv st rp tr lvl)
noncomputable def retV (i : Nat) (Γ : G) : Option O := match Γ[i]? with
  | some (some (d, lv)) => some (.ret d lv)
  | _ => none
theorem denS_retvar {x : Str} {p pos : Pos} (i : Nat) (hx : nm[i]? = some x := by rfl) : DenS c hm n sc nm (.Return (some (.Name x p)) pos) (retV i) := by
  intro A l env h₀ f₀ Γ vf s r Q E hsF hR iv hf hQ hE
  have hsc := hsF.1
  unfold retV at hf
  split at hf
  · rename_i d lv hi
    obtain rfl := Option.some.inj hf
    obtain ⟨y, h1, h2, h3⟩ := iv.rd.var i d lv hi
    rw [hx] at h1; obtain rfl := Option.some.inj h1
    refine wpAny_Return_some (load_bd iv.rd.fn h2 (hQ _ _ ⟨⟨_, _, rfl⟩, KpP.refl _ _, iv.kb, iv.rd.bs, iv.rd.ns, _, h3, iv.org i, fun q a t e => ?_, fun q => ?_⟩))
    · exact ⟨(iv.own1 i d lv hi q a t e).1, (iv.own1 i d lv hi q a t e).2.1, (iv.own1 i d lv hi q a t e).2.2.1⟩
    · exact ⟨fun a ha => ⟨((iv.own2 i d lv hi q).1 a ha).1, ((iv.own2 i d lv hi q).1 a ha).2.1⟩, (iv.own2 i d lv hi q).2⟩
  · exact nos hf
theorem denS_expr {e : Expr} {pos : Pos} {occ : List Nat} {f : G → Option (R (D × Nat))} (h : Den c hm n sc nm e occ f) (hs : ∀ env : Env, env.scope = sc → swapsWith e none pos.line env = pure false := by intro _ _; rfl)
    (hi : ∀ env : Env, env.scope = sc → interactive env = false := by intro _ h; unfold interactive; rw [h]; rfl) :
    DenS c hm n sc nm (.Expr e pos) (fun Γ => bindE (f Γ) Γ fun _ => some (.next Γ)) := by
  intro A l env h₀ f₀ Γ vf s r Q E hsF hR iv hf hQ hE
  have hsc := hsF.1
  refine wpAny_Expr_any (h.runS hsc hR iv hf (fun d lv _ hf v fp s₁ st rp tr lvl => ?_) hE) (hi env hsc) (hs env hsc)
  obtain rfl := Option.some.inj hf
  exact hQ _ _ ⟨vf, iv.step st⟩
theorem denS_break {pos : Pos} : DenS c hm n sc nm (.Break pos) (fun Γ => some (.brk Γ)) := by
  intro A l env h₀ f₀ Γ vf s r Q E hsF hR iv hf hQ hE
  have hsc := hsF.1
  obtain rfl := Option.some.inj hf
  exact wpAny_Break (hQ _ _ ⟨vf, iv.step (St.refl iv.rd.bs)⟩)
end
end Mine
namespace Mine
open PySem PySem.Calls PyProof.Rows PySem.SeqAt

section
variable {c : Cx} {hm : Bool} {n : Nat} {sc : Scope} {nm : List Str} {h₀ : Heap} {f₀ : List Addr} {env : Env} {Γ Γ' Γ'' : G} {vf vf' vf'' : Nat → Value × List Addr} {s s' s'' : Shared}

-- a comprehension whose value goes to a name ere its names are let go
theorem Stp.let_go {C : Addr} {h' : Heap} {m' : Str → Option Value} (x : Stp c h₀ f₀ env nm Γ vf s Γ' vf' s') (hns : s'.heap.Ns C m') (hC : s.heap.get? C = none) (hCL : C ≠ env.locals) (hC0 : h₀.get? C = none) (hs' : Heap.SameBut C s'.heap h') :
    Stp c h₀ f₀ env nm Γ vf s Γ' vf' { s' with heap := h' } := by
  have k : ∀ b o, s'.heap.get? b = some o → NotDict o → h'.get? b = some o := fun b o e nd => hs'.extBut b o (ns_ne hns e nd) e
  obtain ⟨m, hn⟩ := x.iv.rd.ns
  have iv := x.iv
  have hex : ∀ b, h'.get? b = none → s'.heap.get? b = none ∨ b = C := fun b hb => by
    by_cases q : b = C
    · exact .inr q
    · refine .inl ?_
      cases e : s'.heap.get? b with
      | none => rfl
      | some o => have := hs'.extBut b o q e; rw [hb] at this; exact nos this
  refine ⟨⟨⟨⟨fun b o e => hs'.extBut b o (fun q => by rw [q, iv.nb hC0] at e; exact nos e) (iv.rd.bs.1 b o e), iv.rd.bs.2⟩, ⟨m, hn.at' fun o e => hs'.extBut _ o (Ne.symm hCL) e⟩, iv.rd.nb, iv.rd.fn, iv.rd.gl, iv.rd.bl, iv.rd.cl, fun i d lv e => ?_⟩,
    fun b o _ e => ?_, iv.nl, fun y a e => ?_, iv.cd, iv.nd, fun i a ha => ?_, iv.org, fun i d lv e q a t r => ?_, fun i d lv e q => ?_, iv.bh⟩, ?_, fun b o hb e => ?_, x.gr, fun b hb => ?_⟩
  · obtain ⟨y, h1, ⟨b1, b2, b3⟩, h3⟩ := iv.rd.var i d lv e
    refine ⟨y, h1, ⟨b1, b2, ?_⟩, h3.keep k⟩
    rcases b3 with ⟨b4, m'', b5, b6⟩ | ⟨b4, cl, b5, o, b6, b7⟩
    · exact .inl ⟨b4, m'', b5.at' fun o e => hs'.extBut _ o (Ne.symm hCL) e, b6⟩
    · exact .inr ⟨b4, cl, b5, o, k cl o b6 (notDict_of_cell b7), b7⟩
  · obtain ⟨h1, sl, h2⟩ := iv.kb b o id e
    have hb : b ≠ C := fun q => by rw [q, hC0] at e; exact nos e
    exact ⟨fun nd => hs'.extBut b o hb (h1 nd), sl, hs'.extBut b _ hb h2⟩
  · obtain ⟨h1, v, o, h2, h3⟩ := iv.ce y a e
    exact ⟨h1, v, o, k a o h2 (notDict_of_cell h3), h3⟩
  · obtain ⟨o, vs, j, h1, h2, h3⟩ := iv.al i a ha
    exact ⟨o, vs, j, k a o h1 (notDict_of_seq h3), h2, h3⟩
  · obtain ⟨h1, h2, ⟨o, vs, j, w1, w2, w3⟩, h4⟩ := iv.own1 i d lv e q a t r
    exact ⟨h1, h2, ⟨o, vs, j, k a o w1 (notDict_of_seq w2), w2, w3⟩, h4⟩
  · obtain ⟨h1, h2⟩ := iv.own2 i d lv e q
    refine ⟨fun a ha => ?_, h2⟩
    obtain ⟨w0, ⟨o, vs, j, w1, w2, w3⟩, w4⟩ := h1 a ha
    exact ⟨w0, ⟨o, vs, j, k a o w1 (notDict_of_seq w2), w2, w3⟩, w4⟩
  · obtain ⟨h, tk, q⟩ := x.same
    exact ⟨h', s'.toks, by rw [q]⟩
  · obtain ⟨h1, sl, h2⟩ := x.kp b o hb e
    have hbC : b ≠ C := fun q => by rw [q, hC] at e; exact nos e
    exact ⟨fun nd => hs'.extBut b o hbC (h1 nd), sl, hs'.extBut b _ hbC h2⟩
  · rcases hex b hb with q | q
    · exact x.ex b q
    · rw [q]; exact hC

noncomputable def swapOk (sc scope : Scope) (x : Str) (p pos : Pos) : Bool :=
  sc.kind == .function && (sc.names.lookup x == some .local) && p.line == pos.line && !(scope.names.any fun (n, k) => n == x && (k == .local || k == .cell))
theorem swaps_eq {elt : Expr} {gens : List Comprehension} {scope : Scope} {pos p : Pos} {x : Str} {ln : Nat} (hsc : env.scope = sc) (hk : sc.kind = .function) :
    swapsWith (.ListComp elt gens scope pos) (some (.Name x p)) ln env = pure (swapOk sc scope x p pos) := by
  unfold swapsWith swapOk Env.blockKind Env.kindOf
  rw [hsc, hk]
  rfl

theorem denS_assignC {scope : Scope} {t x : Str} {p px pos pc : Pos} {iter elt : Expr} {ifs : List Expr} {occI occE : List Nat} {fI : G → Option (R (List D))} {fE : G → Option (R (D × Nat))} {fC : G → Option (R Bool)} (i : Nat) (cap : List Nat)
    (hI : DenIt c hm n sc nm iter occI fI) (hT : DenT c hm n (relabelS scope sc) (compNm nm x cap) ifs fC) (hEl : Den c hm n (relabelS scope sc) (compNm nm x cap) elt occE fE)
    (hok : compOk sc scope nm x cap = true := by kernel_rfl) (hfs : ∀ env v, foldedSetIterable iter env v = pure v := by intro _ _; rfl)
    (hx : nm[i]? = some t := by rfl) (hk : stK sc t = true := by kernel_rfl) (ho : okNm t = true := by kernel_rfl)
    (hsw : swapOk sc scope t p pc = true := by kernel_rfl) :
    DenS c hm n sc nm (.Assign [.Name t p] (.ListComp elt [⟨.Name x px, iter, ifs, 0⟩] scope pc) pos) (fun Γ => bindE (bindR (fI Γ) (compF fE fC cap Γ)) Γ fun a => some (.next (setV (occI ++ cap) i a Γ))) := by
  intro A l env h₀ f₀ Γ vf s r Q E hsF hR iv hf hQ hE
  have hsc := hsF.1
  obtain ⟨m, hn⟩ := iv.rd.ns
  obtain ⟨k1, k2, k3, k4, k5, k6, k7, k8, k9⟩ := compOk_inv hok
  rw [exec_Assign_Name_used _ _ _ _ ((swaps_eq hsc k2).trans (by rw [hsw]))]
  refine wpAny_bind (wpAny_standAt (wpAny_bind ?_))
  show wpAny _ _ (comprehension _ scope env _ (newList []) _ (firstIter _ env) (some _) >>= fun _ => pure ()) _ _ s
  refine wpAny_bind ?_
  refine wpAny_mono (Q := fun _ s' => Q .next s') (E := E) ?_ (fun _ s' q => wpAny_pure (wpAny_pure q)) fun _ _ x => x
  refine wpAny_comprehension_free rfl (hfs env) (closureFor_eq fun y hy q => iv.rd.cl y.1 (by rw [hsc]; exact k6 y hy q)) k1 k5 ?_
  rcases bindE_some hf with ⟨a, h1, h2⟩ | ⟨k, h1, rfl⟩
  · refine comp_core hok hI hT hEl hsc hR iv.rd h1 (fun Da C s' m' ds fp e st rp tr lv hns hC hCb => ?_) (fun x k s' e => by cases e)
    cases e
    obtain rfl := Option.some.inj h2
    have hCL : C ≠ env.locals := fun q => by obtain ⟨o, _, _, e, _⟩ := hn; rw [q, e] at hC; exact son hC
    have hCc : ∀ y, env.cells.lookup y ≠ some C := fun y q => by
      obtain ⟨_, v, o, e, _⟩ := iv.ce y C q
      rw [hC] at e; exact nos e
    refine wpAny_assign_Name (store iv st rp tr lv hsc hx hk ho fun s'' sp hkeep => ⟨m', hns.at' fun o e => hkeep C o hCL hCc e, fun h' hs' => ?_⟩)
    exact hQ _ _ ⟨_, sp.let_go (hns.at' fun o e => hkeep C o hCL hCc e) hC hCL (iv.fresh hC) hs'⟩
  · refine comp_core hok hI hT hEl hsc hR iv.rd h1 (fun Da C s' m' ds fp e => by cases e) (fun x k' s' e fl => ?_)
    cases e
    exact hE x s' ⟨vf, s, iv.step (St.refl iv.rd.bs), fl⟩
end
end Mine
namespace Mine
open PySem PySem.Calls PyProof.Rows PySem.SeqAt

section
variable {c : Cx} {hm : Bool} {n : Nat} {sc : Scope} {nm : List Str} {h₀ : Heap} {f₀ : List Addr} {env : Env} {Γ Γ' Γ'' : G} {vf vf' vf'' : Nat → Value × List Addr} {s s' s'' : Shared}

theorem set_get {Γb : G} {i j : Nat} {d d' : D} {lv lv' : Nat} (e : (Γb.set i (some (d, lv)))[j]? = some (some (d', lv'))) : (j = i ∧ d' = d ∧ lv' = lv) ∨ (j ≠ i ∧ Γb[j]? = some (some (d', lv'))) := by
  rw [List.getElem?_set] at e
  split at e
  · rename_i q
    split at e
    · cases e; exact .inl ⟨q.symm, rfl, rfl⟩
    · exact nos e
  · rename_i q; exact .inr ⟨fun w => q w.symm, e⟩

/-- the list of an owned name takes other items -/
theorem mutate {s₁ : Shared} {i : Nat} {a : Addr} {t t' : List Addr} {xs ds' : List D} {lv lv' : Nat} {occ : List Nat} {vs' : Array Value} {h' : Heap} {Γb : G}
    (iv : Iv c h₀ f₀ env nm Γ vf s) (st : St c env.locals s s₁) (hi : Γ[i]? = some (some (.list xs, lv))) (h1 : 1 ≤ lv) (hfp : (vf i).2 = a :: t)
    (hs' : Heap.SameBut a s₁.heap h') (hl : h'.IsList a vs') (hnd : Nd h' a) (hrs : Rps c.mg s₁.heap vs'.toList ds' t') (hna : a ∉ t')
    (ht : ∀ b ∈ t', b ∈ t ∨ s.heap.get? b = none ∨ ∃ j ∈ occ, b ∈ (vf j).2) (hwk : Wk Γb Γ) (hlv : lv' ≤ lv)
    (hcase : (∀ b ∈ t', b ∈ t ∨ s.heap.get? b = none) ∨ (lv' ≤ 1 ∧ i ∉ occ ∧ ∀ (j : Nat) (d : D) (l : Nat), Γb[j]? = some (some (d, l)) → j ∈ occ → l = 0))
    (hnod : 2 ≤ lv' → t'.Nodup ∧ ∀ b ∈ t', b ∈ t ∨ (s.heap.get? b = none ∧ Nd s₁.heap b)) :
    Stp c h₀ f₀ env nm Γ vf s (Γb.set i (some (.list ds', lv'))) (fun j => if j = i then ((vf i).1, a :: t') else vf j) { s₁ with heap := h' } := by
  obtain ⟨m, hn⟩ := iv.rd.ns
  have hn₁ := st.kp.ns m hn
  have iv₁ := iv.keep st
  obtain ⟨w1, w2, w3, w4⟩ := iv.own1 i _ lv hi h1 a t hfp
  obtain ⟨x, hx, hbx, hrx⟩ := iv₁.rd.var i _ lv hi
  have hv : (vf i).1 = .ref a := by
    obtain ⟨a', _, f, z1, z2, _⟩ := listObjE hrx
    rw [hfp] at z2
    cases z2; exact z1
  have hOwn : Own Γ vf a := ⟨i, _, lv, hi, .inl ⟨h1, t, hfp⟩⟩
  obtain ⟨⟨oa, va, ka, e1, e2, e3⟩, _⟩ := hOwn.lst iv₁
  have hLa : env.locals ≠ a := fun q => ns_ne hn₁ e1 (notDict_of_seq e3) q.symm
  have hca : ∀ y, env.cells.lookup y ≠ some a := fun y q => by
    obtain ⟨_, v, o, z1, z2⟩ := iv₁.ce y a q
    rw [e1] at z1; obtain rfl := Option.some.inj z1
    rw [e3] at z2; cases z2
  have keep : ∀ {w e g}, Rp c.mg s₁.heap w e g → a ∉ g → Rp c.mg h' w e g := fun {w e g} r hg =>
    r.keepM (W := fun b => b = a) (fun b o hb e _ => hs'.extBut b o hb e) (fun b o vs k hb e hc hd => by subst hb; rw [e1] at e; obtain rfl := Option.some.inj e; rw [e2] at hc; injection hc with q; exact absurd q (by decide))
      (fun b o vs hb e hd => by subst hb; rw [e1] at e; obtain rfl := Option.some.inj e; rw [e3] at hd; cases hd) fun b hb q => hg (q ▸ hb)
  have keeps : Rps c.mg h' vs'.toList ds' t' :=
    hrs.keepM (W := fun b => b = a) (fun b o hb e _ => hs'.extBut b o hb e) (fun b o vs k hb e hc hd => by subst hb; rw [e1] at e; obtain rfl := Option.some.inj e; rw [e2] at hc; injection hc with q; exact absurd q (by decide))
      (fun b o vs hb e hd => by subst hb; rw [e1] at e; obtain rfl := Option.some.inj e; rw [e3] at hd; cases hd) fun b hb q => hna (q ▸ hb)
  have keepB : ∀ y w, Bd env s₁.heap y w → Bd env h' y w := by
    rintro y w ⟨b1, b2, b3⟩
    refine ⟨b1, b2, ?_⟩
    rcases b3 with ⟨b4, m', b5, b6⟩ | ⟨b4, cl, b5, o, b6, b7⟩
    · exact .inl ⟨b4, m', b5.at' fun o e => hs'.extBut _ o hLa e, b6⟩
    · exact .inr ⟨b4, cl, b5, o, hs'.extBut cl o (fun q => hca y (q ▸ b5)) b6, b7⟩
  have hnda : ∀ b, Nd s.heap b → Nd h' b := fun b hb => by
    by_cases q : b = a
    · subst q; exact hnd
    · obtain ⟨o, vs, k, z1, z2, z3⟩ := hb.keep st.kp hn
      exact ⟨o, vs, k, hs'.extBut b o q z1, z2, z3⟩
  have hres : ∀ b, h'.get? b = none → s₁.heap.get? b = none := fun b hb => by
    by_cases q : b = a
    · subst q; obtain ⟨o, z, _⟩ := hl; rw [hb] at z; exact nos z
    · cases e : s₁.heap.get? b with
      | none => rfl
      | some o => have := hs'.extBut b o q e; rw [hb] at this; exact nos this
  refine iv.upd (s' := { s₁ with heap := h' }) ?_ ⟨fun b o e => hs'.extBut b o (fun q => ?_) (st.bs.1 b o e), st.bs.2⟩ ⟨m, hn₁.at' fun o e => hs'.extBut _ o hLa e⟩ (fun y b e => ?_) ?_ (fun b hb => st.kp.gone hn (hres b hb)) (fun j b hb => ?_) _ i (lv := lv') (d := .list ds')
    (fun j d' l' e => ?_) (fun j d' l' hj e => ?_) ⟨x, hx, keepB x _ hbx⟩ ?_ (fun b hb => ?_) (fun q b t'' e => ?_) (fun q => ?_) hnda (fun b hb j d' l' hj e h hbf => ?_) (fun q b t'' e => ?_) (fun q b hb => ?_)
  · obtain ⟨h, tk, q⟩ := st.same
    exact ⟨h', s₁.toks, by rw [q]⟩
  · rw [q, iv.nb w1] at e; exact nos e
  · obtain ⟨_, v, o, z1, z2⟩ := iv₁.ce y b e
    exact ⟨v, o, hs'.extBut b o (fun q => hca y (q ▸ e)) z1, z2⟩
  · exact (KpP.of_kp st.kp (.inl rfl)).trans (Q := fun b => b = a) (KpP.of_but fun b o hb e => hs'.extBut b o hb e) fun b o _ hP hb => hP (.inr (.inr (hb ▸ hOwn)))
  · by_cases q : b = a
    · subst q
      obtain ⟨o, z1, z2, k, z3⟩ := hl
      exact ⟨o, _, k, z1, z2, z3⟩
    · obtain ⟨o, vs, k, z1, z2, z3⟩ := iv₁.al j b hb
      exact ⟨o, vs, k, hs'.extBut b o q z1, z2, z3⟩
  · rcases set_get e with z | ⟨z1, z2⟩
    · exact .inl z
    · obtain ⟨l'', z3, z4⟩ := hwk j d' l' z2
      exact .inr ⟨z1, l'', z3, z4⟩
  · rcases set_get e with ⟨z, _⟩ | ⟨z1, z2⟩
    · exact absurd z hj
    · obtain ⟨l'', z3, z4⟩ := hwk j d' l' z2
      obtain ⟨y, z5, z6, z7⟩ := iv₁.rd.var j d' l'' z4
      exact ⟨y, z5, keepB y _ z6, keep z7 (w4 j hj)⟩
  · rw [hv]
    obtain ⟨o, z1, z2, k, z3⟩ := hl
    exact .list z1 z2 z3 keeps
  · rcases List.mem_cons.mp hb with rfl | hb
    · exact .inl w1
    · rcases ht b hb with q | q | ⟨j, _, q⟩
      · exact iv.org i b (by rw [hfp]; exact List.mem_cons_of_mem _ q)
      · exact .inl (iv.fresh q)
      · exact iv.org j b q
  · cases e
    exact ⟨w1, hna, hnd, w4⟩
  · obtain ⟨z1, z2⟩ := hnod q
    obtain ⟨z3, z4⟩ := iv.own2 i _ lv hi (Nat.le_trans q hlv)
    refine ⟨fun b hb => ?_, List.nodup_cons.mpr ⟨hna, z1⟩⟩
    rcases List.mem_cons.mp hb with rfl | hb
    · exact ⟨w1, hnd, w4⟩
    · rcases z2 b hb with q | ⟨q, hnb⟩
      · obtain ⟨y1, y2, y3⟩ := z3 b (by rw [hfp]; exact List.mem_cons_of_mem _ q)
        exact ⟨y1, hnda b y2, y3⟩
      · refine ⟨iv.fresh q, ?_, fun j _ hj => ?_⟩
        · obtain ⟨o, vs, k, y1, y2, y3⟩ := hnb
          exact ⟨o, vs, k, hs'.extBut b o (fun q' => hna (q' ▸ hb)) y1, y2, y3⟩
        · obtain ⟨o, _, _, z, _⟩ := iv.al j b hj; rw [q] at z; exact nos z
  · rcases set_get e with ⟨z, _⟩ | ⟨z1, z2⟩
    · exact hj z
    obtain ⟨l'', z3, z4⟩ := hwk j d' l' z2
    have hnot : ∀ j', j' ≠ j → b ∉ (vf j').2 := fun j' hj' => by
      rcases h with ⟨y1, t'', y2⟩ | ⟨y1, y2⟩
      · exact (iv.own1 j d' l'' z4 (Nat.le_trans y1 z3) b t'' y2).2.2.2 j' hj'
      · exact ((iv.own2 j d' l'' z4 (Nat.le_trans y1 z3)).1 b y2).2.2 j' hj'
    obtain ⟨⟨o, _, _, z5, _⟩, _⟩ := hb.lst iv
    rcases List.mem_cons.mp hbf with rfl | hbf
    · exact hnot i (fun q => hj q.symm) (by rw [hfp]; exact List.mem_cons_self ..)
    · have hti : b ∉ t := fun q => hnot i (fun q => hj q.symm) (by rw [hfp]; exact List.mem_cons_of_mem _ q)
      rcases hcase with hc | ⟨_, _, hc⟩
      · rcases hc b hbf with q | q
        · exact hti q
        · rw [z5] at q; exact son q
      · rcases ht b hbf with q | q | ⟨j', hj', q⟩
        · exact hti q
        · rw [z5] at q; exact son q
        · by_cases hjj : j' = j
          · subst hjj
            have := hc j' d' l' z2 hj'
            rcases h with ⟨y1, _⟩ | ⟨y1, _⟩ <;> omega
          · exact hnot j' hjj q
  · cases e; exact .inl hOwn
  · rcases List.mem_cons.mp hb with rfl | hb
    · exact .inl hOwn
    · rcases (hnod q).2 b hb with z | z
      · exact .inl ⟨i, _, lv, hi, .inr ⟨Nat.le_trans q hlv, by rw [hfp]; exact List.mem_cons_of_mem _ z⟩⟩
      · exact .inr z.1
end
end Mine
namespace Mine
open PySem PySem.Calls PyProof.Rows PySem.SeqAt

section
variable {c : Cx} {hm : Bool} {n : Nat} {sc : Scope} {nm : List Str} {h₀ : Heap} {f₀ : List Addr} {env : Env} {Γ Γ' Γ'' : G} {vf vf' vf'' : Nat → Value × List Addr} {s s' s'' : Shared}

noncomputable def appV (occ : List Nat) (i : Nat) (xs : List D) (lv : Nat) (a : D × Nat) (Γ : G) : Option O :=
  if a.1.flat || decide (2 ≤ a.2) then some (.next (Γ.set i (some (.list (xs ++ [a.1]), lv))))
  else if occ.contains i then none else some (.next ((dropL occ Γ).set i (some (.list (xs ++ [a.1]), 1))))
noncomputable def appF (occ : List Nat) (i : Nat) (f : G → Option (R (D × Nat))) (Γ : G) : Option O :=
  match Γ[i]? with
  | some (some (.list xs, lv)) => if 1 ≤ lv ∧ xs.length ≤ lim then bindE (f Γ) Γ fun a => appV occ i xs lv a Γ else none
  | _ => none

/-- an owned name's list, found in the heap -/
theorem Iv.lst (iv : Iv c h₀ f₀ env nm Γ vf s) {i : Nat} {xs : List D} {lv : Nat} (hi : Γ[i]? = some (some (.list xs, lv))) (h1 : 1 ≤ lv) :
    ∃ a t vs x, (vf i).1 = .ref a ∧ (vf i).2 = a :: t ∧ s.heap.IsList a vs ∧ Nd s.heap a ∧ Rps c.mg s.heap vs.toList xs t ∧ nm[i]? = some x ∧ Bd env s.heap x (.ref a) ∧ a ∉ t ∧ ∀ j, j ≠ i → a ∉ (vf j).2 := by
  obtain ⟨x, h2, h3, h4⟩ := iv.rd.var i _ lv hi
  obtain ⟨a, vs, t, h5, h6, h7, h8⟩ := listObjE h4
  obtain ⟨w1, w2, w3, w4⟩ := iv.own1 i _ lv hi h1 a t h6
  exact ⟨a, t, vs, x, h5, h6, h7, w3, h8, h2, h5 ▸ h3, w2, w4⟩

theorem IsList.get {h : Heap} {a : Addr} {vs : Array Value} (hl : h.IsList a vs) (hn : Nd h a) : ∃ o k, h.get? a = some o ∧ o.cls = .type "list" ∧ o.data = .seq vs k ∧ o.dict = none := by
  obtain ⟨o, h1, h2, k, h3⟩ := hl
  obtain ⟨o', vs', k', h4, h5, h6⟩ := hn
  rw [h1] at h4; obtain rfl := Option.some.inj h4
  exact ⟨o, k, h1, h2, h3, h6⟩
theorem IsList.st {a : Addr} {vs : Array Value} {L : Addr} {m : Str → Option Value} (st : St c L s s') (hn : s.heap.Ns L m) (hl : s.heap.IsList a vs) : s'.heap.IsList a vs := by
  obtain ⟨o, h1, h2, k, h3⟩ := hl
  exact ⟨o, st.kp.keep hn h1 (notDict_of_seq h3), h2, k, h3⟩

theorem denA_one {e : Expr} {occ : List Nat} {f : G → Option (R (D × Nat))} (h : Den c hm n sc nm e occ f) (hs : NotStar e := by intro _ _; rfl)
    {g : D × Nat → Option O} {r : O} {A : Around} {l : List Env} {pos : Pos} {Q : List Value → Shared → Prop} {E : Value → Shared → Prop}
    (hsc : env.scope = sc) (hR : Room c hm n A l s.heap) (iv : Iv c h₀ f₀ env nm Γ vf s) (hx : bindE (f Γ) Γ g = some r)
    (hok : ∀ d lv, f Γ = some (.ok (d, lv)) → g (d, lv) = some r → ∀ v fp s', St c env.locals s s' → Rp c.mg s'.heap v d fp → Tr s.heap vf occ fp → Lv s.heap s'.heap lv fp → Q [v] s')
    (hexc : ∀ x s', PostE c l h₀ f₀ env nm Γ vf s r x s' → E x s') : wpAny (model c.prog c.w) A (spliced (backTo pos (starEach [e] env))) Q E s := by
  refine args_cons ?_ (hs _ _)
  refine h.runS hsc hR iv hx (fun d lv e1 e2 v fp s' st rp tr lvl => ?_) hexc
  exact args_nil (hok d lv e1 e2 v fp s' st rp tr lvl)

-- a method's call in its plain form
noncomputable def MethForm (o : Expr) (name : Str) (apos : Pos) (args : List Expr) (pos : Pos) : Prop := ∀ env, eval (.Call (.Attribute o name apos) args [] pos) env = (do
  let ov ← eval o env
  standAt apos.atName
  let (f, first) ← holding [ov] (getMethod ov name (do return (← importBound o env).getD true))
  callWith pos f first (backTo pos (starEach args env)) [])

theorem denS_append {x : Str} {e : Expr} {px apos cpos pos : Pos} {occ : List Nat} {f : G → Option (R (D × Nat))} (i : Nat) (h : Den c hm n sc nm e occ f) (hx : nm[i]? = some x := by rfl) (hs : NotStar e := by intro _ _; rfl)
    (hi : ∀ env : Env, env.scope = sc → interactive env = false := by intro _ h; unfold interactive; rw [h]; rfl) (hmf : MethForm (.Name x px) "append" apos [e] cpos := by intro _; rfl) :
    DenS c hm n sc nm (.Expr (.Call (.Attribute (.Name x px) "append" apos) [e] [] cpos) pos) (appF occ i f) := by
  intro A l env h₀ f₀ Γ vf s r Q E hsF hR iv hf hQ hE
  have hsc := hsF.1
  obtain ⟨m, hn⟩ := iv.rd.ns
  unfold appF at hf
  split at hf
  · rename_i xs lv hgi
    split at hf
    · rename_i hc
      obtain ⟨h1, hlen⟩ := hc
      obtain ⟨a, t, vs, x', e1, e2, hl, hnd, hrs, e3, hb, hat, haj⟩ := iv.lst hgi h1
      rw [hx] at e3; obtain rfl := Option.some.inj e3
      obtain ⟨o, k, o1, o2, o3, o4⟩ := IsList.get hl hnd
      refine wpAny_Expr_any ?_ (hi env hsc)
      refine MethodCall_ (load_bd iv.rd.fn hb (getMethod_list_append o1 o2 o4 ?_)) (hmf env)
      refine callWith_method1 (denA_one h hs hsc hR iv hf (fun d ld _ hg v fp s₁ st rp tr lvl => ?_) hE) (hs _ _)
      have hrs₁ := st.kp.rps hn hrs
      have hsz : vs.size = xs.length := by simpa using hrs.length
      refine list_append (IsList.st st hn hl) (hnd.keep st.kp hn) (fun h' hl' hnd' hs' => ?_) (by rw [hsz]; unfold lim at hlen; unfold sizeLine; omega)
      have hex : ∀ b ∈ t, ∃ o, s.heap.get? b = some o := fun b hb => by obtain ⟨o, _, _, z, _⟩ := hrs.fp_list b hb; exact ⟨o, z⟩
      obtain ⟨oa, za, _⟩ := id hl
      have hafp : ∀ b ∈ fp, s.heap.get? b = none → b ≠ a := fun b _ q w => by rw [w, za] at q; exact son q
      have hrs2 : Rps c.mg s₁.heap (vs.push v).toList (xs ++ [d]) (t ++ fp) := by
        rw [Array.toList_push]; exact hrs₁.append (Rps.one rp)
      unfold appV at hg
      split at hg
      · rename_i hc
        obtain rfl := Option.some.inj hg
        have hfr : ∀ b ∈ fp, s.heap.get? b = none ∧ Nd s₁.heap b := by
          intro b hb
          rcases Bool.or_eq_true_iff.mp hc with q | q
          · rw [rp.flat_fp q] at hb; cases hb
          · exact (lvl.2 (by simpa using q)).1 b hb
        have hfn : fp.Nodup := by
          rcases Bool.or_eq_true_iff.mp hc with q | q
          · rw [rp.flat_fp q]; exact .nil
          · exact (lvl.2 (by simpa using q)).2
        refine hQ _ _ ⟨_, mutate (occ := occ) (lv' := lv) (t' := t ++ fp) iv st hgi h1 e2 hs' hl' hnd' hrs2 ?_ ?_ (fun _ _ l e => ⟨l, Nat.le_refl _, e⟩) (Nat.le_refl _) (.inl ?_) ?_⟩
        · intro q
          rcases List.mem_append.mp q with q | q
          · exact hat q
          · exact hafp a q (hfr a q).1 rfl
        · intro b q
          rcases List.mem_append.mp q with q | q
          · exact .inl q
          · exact .inr (.inl (hfr b q).1)
        · intro b q
          rcases List.mem_append.mp q with q | q
          · exact .inl q
          · exact .inr (hfr b q).1
        · intro q
          refine ⟨List.nodup_append.mpr ⟨?_, hfn, ?_⟩, fun b q => ?_⟩
          · have := (iv.own2 i _ lv hgi q).2
            rw [e2] at this; exact (List.nodup_cons.mp this).2
          · rintro b hb b' hb' rfl
            obtain ⟨o, z⟩ := hex b hb
            rw [(hfr b hb').1] at z; exact nos z
          · rcases List.mem_append.mp q with q | q
            · exact .inl q
            · exact .inr (hfr b q)
      · split at hg
        · exact nos hg
        · rename_i hc hio
          have hio' : i ∉ occ := by simpa using hio
          obtain rfl := Option.some.inj hg
          refine hQ _ _ ⟨_, mutate (occ := occ) (lv' := 1) (t' := t ++ fp) iv st hgi h1 e2 hs' hl' hnd' hrs2 ?_ ?_ (dropL_wk occ Γ) h1 (.inr ⟨Nat.le_refl _, hio', fun j d l e hj => ?_⟩) (fun q => absurd q (by omega))⟩
          · intro q
            rcases List.mem_append.mp q with q | q
            · exact hat q
            · rcases tr a q with w | ⟨j, hj, w⟩
              · exact hafp a q w rfl
              · exact haj j (fun z => hio' (z ▸ hj)) w
          · intro b q
            rcases List.mem_append.mp q with q | q
            · exact .inl q
            · exact .inr (tr b q)
          · obtain ⟨_, _, _, z⟩ := dropL_get e
            exact z hj
    · exact nos hf
  · exact nos hf
end
end Mine
namespace Mine
open PySem PySem.Calls PyProof.Rows PySem.SeqAt

section
variable {c : Cx} {hm : Bool} {n : Nat} {sc : Scope} {nm : List Str} {h₀ : Heap} {f₀ : List Addr} {env : Env} {Γ Γ' Γ'' : G} {vf vf' vf'' : Nat → Value × List Addr} {s s' s'' : Shared}

/-- the iterator moves on: nothing else is touched -/
theorem Stp.iter {I : Addr} {h' : Heap} {tk : Nat} (x : Stp c h₀ f₀ env nm Γ vf s Γ' vf' s') (hI : s.heap.get? I = none) (hIo : ItObj s'.heap I) (hM : ¬ Mut env Γ' vf' I) (hk : ∀ b o, b ∉ [I] → s'.heap.get? b = some o → h'.get? b = some o) (htk : 1 ≤ tk)
    (hI0 : h₀.get? I = none) : Stp c h₀ f₀ env nm Γ vf s Γ' vf' { s' with heap := h', toks := tk } := by
  have iv := x.iv
  obtain ⟨m, hn⟩ := iv.rd.ns
  obtain ⟨oI, T, i1, i2, i3, i4, i5⟩ := hIo
  have hk' : ∀ b o, b ≠ I → s'.heap.get? b = some o → h'.get? b = some o := fun b o hb e => hk b o (by simpa using hb) e
  have hL : env.locals ≠ I := fun q => hM (.inl q.symm)
  have hcl : ∀ y, env.cells.lookup y ≠ some I := fun y q => hM (.inr (.inl ⟨y, q⟩))
  have hlist : ∀ a o vs k, s'.heap.get? a = some o → o.cls = .type "list" → o.data = .seq vs k → a ≠ I := fun a o vs k e1 e2 e3 q => by
    rw [q, i1] at e1; obtain rfl := Option.some.inj e1
    rw [i3] at e2; injection e2 with z; exact i4 z
  have keepR : ∀ {w e g}, Rp c.mg s'.heap w e g → Rp c.mg h' w e g := fun {w e g} r =>
    r.keepOn (W := fun b => b = I) (fun b o hb e _ => hk' b o hb e) (fun b o hb e => ⟨T, by subst hb; rw [i1] at e; obtain rfl := Option.some.inj e; exact i3, i5⟩) fun a ha => by
      obtain ⟨o, vs, k, e1, e2, e3⟩ := r.fp_list a ha
      exact hlist a o vs k e1 e2 e3
  have hndI : ∀ i a, a ∈ (vf' i).2 → Nd s'.heap a → Nd h' a := fun i a ha ⟨o, vs, k, e1, e2, e3⟩ => by
    obtain ⟨o', vs', k', z1, z2, z3⟩ := iv.al i a ha
    exact ⟨o, vs, k, hk' a o (hlist a o' vs' k' z1 z2 z3) e1, e2, e3⟩
  refine ⟨⟨⟨⟨fun b o e => hk' b o (fun q => by rw [q, iv.nb hI0] at e; exact nos e) (iv.rd.bs.1 b o e), htk⟩, ⟨m, hn.at' fun o e => hk' _ o hL e⟩, iv.rd.nb, iv.rd.fn, iv.rd.gl, iv.rd.bl, iv.rd.cl, fun i d lv e => ?_⟩,
    fun b o _ e => ?_, iv.nl, fun y a e => ?_, iv.cd, iv.nd, fun i a ha => ?_, iv.org, fun i d lv e q a t r => ?_, fun i d lv e q => ?_, iv.bh⟩, ?_, fun b o hb e => ?_, x.gr, fun b hb => ?_⟩
  · obtain ⟨y, h1, ⟨b1, b2, b3⟩, h3⟩ := iv.rd.var i d lv e
    refine ⟨y, h1, ⟨b1, b2, ?_⟩, keepR h3⟩
    rcases b3 with ⟨b4, m'', b5, b6⟩ | ⟨b4, cl, b5, o, b6, b7⟩
    · exact .inl ⟨b4, m'', b5.at' fun o e => hk' _ o hL e, b6⟩
    · exact .inr ⟨b4, cl, b5, o, hk' cl o (fun q => hcl y (q ▸ b5)) b6, b7⟩
  · obtain ⟨h1, sl, h2⟩ := iv.kb b o id e
    have hb : b ≠ I := fun q => by rw [q, hI0] at e; exact nos e
    exact ⟨fun nd => hk' b o hb (h1 nd), sl, hk' b _ hb h2⟩
  · obtain ⟨h1, v, o, h2, h3⟩ := iv.ce y a e
    exact ⟨h1, v, o, hk' a o (fun q => hcl y (q ▸ e)) h2, h3⟩
  · obtain ⟨o, vs, j, h1, h2, h3⟩ := iv.al i a ha
    exact ⟨o, vs, j, hk' a o (hlist a o vs j h1 h2 h3) h1, h2, h3⟩
  · obtain ⟨h1, h2, h3, h4⟩ := iv.own1 i d lv e q a t r
    exact ⟨h1, h2, hndI i a (by rw [r]; exact List.mem_cons_self ..) h3, h4⟩
  · obtain ⟨h1, h2⟩ := iv.own2 i d lv e q
    refine ⟨fun a ha => ?_, h2⟩
    obtain ⟨w0, w1, w4⟩ := h1 a ha
    exact ⟨w0, hndI i a ha w1, w4⟩
  · obtain ⟨h, tk', q⟩ := x.same
    exact ⟨h', tk, by rw [q]⟩
  · obtain ⟨h1, sl, h2⟩ := x.kp b o hb e
    have hbC : b ≠ I := fun q => by rw [q, hI] at e; exact nos e
    exact ⟨fun nd => hk' b o hbC (h1 nd), sl, hk' b _ hbC h2⟩
  · by_cases q : b = I
    · rw [q]; exact hI
    · refine x.ex b ?_
      cases e : s'.heap.get? b with
      | none => rfl
      | some o => have := hk' b o q e; dsimp only at hb; rw [hb] at this; exact nos this

noncomputable def itemLv (d : D) : Nat := if d.flat then 2 else 0
noncomputable def loopF (fB : G → Option O) (ix : Nat) : List D → G → Option O
  | [], Γ => some (.next Γ)
  | x :: xs, Γ => match fB (Γ.set ix (some (x, itemLv x))) with
    | some (.next Γ') => loopF fB ix xs Γ'
    | some (.cont Γ') => loopF fB ix xs Γ'
    | some (.brk Γ') => some (.next Γ')
    | some (.ret d lv) => some (.ret d lv)
    | _ => none
noncomputable def forF (occ : List Nat) (ix : Nat) (fI : G → Option (R (List D))) (fB : G → Option O) (Γ : G) : Option O := bindE (fI Γ) Γ fun xs => loopF fB ix xs (dropL occ Γ)

-- what the loop keeps
inductive FInv (S : G → (Nat → Value × List Addr) → Shared → Prop) (W : Nat → Heap → Prop) (F : List D → G → Option O) (r : O) (xs : List D) (K : Heap → Prop) (Ow : G → (Nat → Value × List Addr) → Prop) (h₂ : Heap) (s' : Shared) : Nat → Prop
  | mk {i : Nat} {Γi : G} {vfi : Nat → Value × List Addr} (sp : S Γi vfi s') (hWi : W i s'.heap) (hl : F (xs.drop i) Γi = some r) (hi : i ≤ xs.length) (hkp : K s'.heap) (hgr : Ow Γi vfi) (hex : ∀ b, s'.heap.get? b = none → h₂.get? b = none) : FInv S W F r xs K Ow h₂ s' (xs.length + 1 - i)

theorem denS_for {x : Str} {px pos : Pos} {iter : Expr} {body : List Stmt} {occ : List Nat} {fI : G → Option (R (List D))} {fB : G → Option O} (ix : Nat)
    (hI : DenIt c false n sc nm iter occ fI) (hB : DenSs c false n sc nm body fB) (hx : nm[ix]? = some x := by rfl) (hk : stK sc x = true := by kernel_rfl) (ho : okNm x = true := by kernel_rfl)
    (hfs : ∀ env v, foldedSetIterable iter env v = pure v := by intro _ _; rfl) :
    DenS c false n sc nm (.For (.Name x px) iter body [] pos) (forF occ ix fI fB) := by
  intro A l env h₀ f₀ Γ vf s r Q E hsF hR iv hf hQ hE
  have hsc := hsF.1
  obtain ⟨m, hn⟩ := iv.rd.ns
  refine wpAny_For ?_ (hfs env)
  unfold forF at hf
  rcases (bindE_some hf).symm with ⟨k, h1, rfl⟩ | ⟨xs, h1, h2⟩
  · exact hI A l env Γ vf s _ _ E hsc hR iv.rd h1 (fun xs I s' e => by cases e) fun x k' s' e fl => by cases e; exact hE x s' ⟨vf, s, iv.step (St.refl iv.rd.bs), fl⟩
  refine hI A l env Γ vf s _ _ E hsc hR iv.rd h1 (fun xs' I s₂ e it => ?_) fun x k' s' e => by cases e
  cases e
  obtain ⟨fp, P, W, fpA, st, hW, h0, hIn, hfp, hWI, hfpA, hTr, hAl, hlen, hit⟩ := it
  have hI0 := iv.fresh hIn
  have iv₂ := iv.keep st
  -- what is walked is no name's own
  have hA : ∀ b ∈ fpA, ¬ Mut env (dropL occ Γ) vf b := by
    intro b hb hM
    obtain ⟨o, e1, e2⟩ := hAl b hb
    rcases hM with rfl | ⟨y, hy⟩ | ⟨j, d, lv, e3, e4⟩
    · rcases hTr _ hb with q | ⟨j, _, q⟩
      · obtain ⟨o', _, _, z, _⟩ := hn; rw [q] at z; exact nos z
      · obtain ⟨o', vs, k, z1, _, z3⟩ := iv.al j _ q
        exact ns_ne hn z1 (notDict_of_seq z3) rfl
    · obtain ⟨_, v, o', z1, z2⟩ := iv.ce y b hy
      rcases hTr _ hb with q | ⟨j, _, q⟩
      · rw [q] at z1; exact nos z1
      · obtain ⟨o'', vs, k, y1, _, y3⟩ := iv.al j _ q
        rw [z1] at y1; obtain rfl := Option.some.inj y1; rw [z2] at y3; cases y3
    · obtain ⟨lv', w1, w2, w3⟩ := dropL_get e3
      have hbj : b ∈ (vf j).2 := by
        rcases e4 with ⟨_, t, q⟩ | ⟨_, q⟩
        · rw [q]; exact List.mem_cons_self ..
        · exact q
      rcases hTr _ hb with q | ⟨j', hj', q⟩
      · obtain ⟨o', _, _, z, _⟩ := iv.al j b hbj; rw [q] at z; exact nos z
      · have hjj : j' ≠ j := fun z => by
          subst z
          have := w3 hj'
          rcases e4 with ⟨y, _⟩ | ⟨y, _⟩ <;> omega
        rcases e4 with ⟨y, t, z⟩ | ⟨y, z⟩
        · exact (iv.own1 j d lv' w2 (Nat.le_trans y w1) b t z).2.2.2 j' hjj q
        · exact ((iv.own2 j d lv' w2 (Nat.le_trans y w1)).1 b z).2.2 j' hjj q
  have hIM : ¬ Mut env (dropL occ Γ) vf I := by
    rintro (rfl | ⟨y, hy⟩ | ho)
    · obtain ⟨o', _, _, z, _⟩ := hn; rw [hIn] at z; exact nos z
    · obtain ⟨_, v, o', z1, z2⟩ := iv.ce y I hy; rw [hIn] at z1; exact nos z1
    · obtain ⟨⟨o', _, _, z, _⟩, _⟩ := (ho.wk (dropL_wk occ Γ)).lst iv; rw [hIn] at z; exact nos z
  have hAo : ∀ a ∈ fpA, h₀.get? a = none ∨ a ∈ f₀ := fun a ha => by
    rcases hTr a ha with q | ⟨j, _, q⟩
    · exact .inl (iv.fresh q)
    · exact iv.org j a q
  have start : Stp c h₀ f₀ env nm Γ vf s (dropL occ Γ) vf s₂ := (iv.step st).trans (iv₂.wkS (dropL_wk occ Γ))
  -- the turns
  have hI2 : ItObj s₂.heap I := hWI 0 _ h0
  have ivd := start.iv
  have hmut : ∀ Γi vfi, (∀ b, Own Γi vfi b → Own (dropL occ Γ) vf b ∨ s₂.heap.get? b = none) → ∀ b o, s₂.heap.get? b = some o → ¬ Mut env (dropL occ Γ) vf b → ¬ Mut env Γi vfi b := by
    rintro Γi vfi hg b o e hM (q | q | q)
    · exact hM (.inl q)
    · exact hM (.inr (.inl q))
    · rcases hg b q with w | w
      · exact hM (.inr (.inr w))
      · rw [e] at w; cases w
  have hitem : ∀ h', KpP (fun b => b = I ∨ Mut env (dropL occ Γ) vf b) s₂.heap h' → ∀ i v d, P i v → xs[i]? = some d → ∃ g, Rp c.mg h' v d g ∧ ∀ a ∈ g, a ∈ fpA := by
    intro h' hk i v d hp hd
    obtain ⟨g, rg, hg⟩ := hit i v d hp hd
    refine ⟨g, ?_, hg⟩
    obtain ⟨oI, T, i1, i2, i3, i4, i5⟩ := hI2
    refine (rp_keepN (W := fun b => b = I ∨ Mut env (dropL occ Γ) vf b) (fun b o hb e nd => (hk b o hb e).1 nd) ?_ ?_).1 rg fun a ha => ?_
    · rintro b o vs k (rfl | hM) e hc hd
      · rw [i1] at e; obtain rfl := Option.some.inj e
        rw [i3] at hc; injection hc with z; exact i5 z
      · rcases hM.kind ivd e with ⟨_, _, _, q⟩ | ⟨_, q⟩ | ⟨_, q, _⟩
        · rw [hd] at q; cases q
        · rw [hd] at q; cases q
        · rw [hc] at q; injection q with z; exact absurd z (by decide)
    · rintro b o vs C (rfl | hM) e hc hd
      · rw [i1] at e; obtain rfl := Option.some.inj e
        rw [i3] at hc; cases hc
      · rcases hM.kind ivd e with ⟨_, _, _, q⟩ | ⟨_, q⟩ | ⟨_, _, _, _, q⟩ <;> (rw [hd] at q; cases q)
    · rintro (q | hM)
      · obtain ⟨o, e1, e2⟩ := hAl a (hg a ha)
        rw [q, i1] at e1; obtain rfl := Option.some.inj e1
        rw [i3] at e2; injection e2 with z; exact i4 z
      · exact hA a (hg a ha) hM
  refine codeAny_forLoop_any (fun k s' => FInv (fun Γi vfi s' => Stp c h₀ f₀ env nm Γ vf s Γi vfi s') W (loopF fB ix) r xs (fun h' => KpP (fun b => b = I ∨ Mut env (dropL occ Γ) vf b) s₂.heap h') (fun Γi vfi => ∀ b, Own Γi vfi b → Own (dropL occ Γ) vf b ∨ s₂.heap.get? b = none) s₂.heap s' k) ?_ (xs.length + 1) ?_
  · rintro k s' ⟨sp, hWi, hl, hi, hkp, hgr, hexi⟩
    rename_i i Γi vfi
    have ivi := sp.iv
    have hIo' := hWI i _ hWi
    obtain ⟨oI2, _, hI2e, _⟩ := id hI2
    have hAi : ∀ b ∈ fpA, ¬ Mut env Γi vfi b := fun b hb => by
      obtain ⟨o, e1, _⟩ := hAl b hb
      exact hmut Γi vfi hgr b o e1 (hA b hb)
    have hIi : ¬ Mut env Γi vfi I := hmut Γi vfi hgr I oI2 hI2e hIM
    by_cases hlt : i < xs.length
    · refine wpAny_with_toks sp.iv.rd.bs.2 (hW.item i _ _ _ hlt hWi fun v h₂ tk₂ hPv hW₂ hk₂ ht₂ => ?_)
      dsimp only at ht₂
      have sp₂ := sp.iter hIn hIo' hIi hk₂ ht₂ hI0
      have hd : ∃ d, xs[i]? = some d := ⟨xs[i], by simp [hlt]⟩
      obtain ⟨d, hd⟩ := hd
      rw [List.drop_eq_getElem_cons hlt] at hl
      have hdd : xs[i] = d := by have := List.getElem?_eq_getElem hlt; rw [hd] at this; exact (Option.some.inj this).symm
      rw [hdd, loopF] at hl
      have hkp₂ : KpP (fun b => b = I ∨ Mut env (dropL occ Γ) vf b) s₂.heap h₂ := hkp.trans (Q := fun b => b = I) (KpP.of_but fun b o hb e => hk₂ b o (by simpa using hb) e) fun b o _ hP q => hP (.inl q)
      obtain ⟨g, rg, hg⟩ := hitem h₂ hkp₂ i v d hPv hd
      refine wpAny_pure ?_
      refine wpAny_assign_Name (storeG (lv := itemLv d) (Γb := Γi) sp₂.iv (St.refl sp₂.iv.rd.bs) rg (fun j d l e => ⟨l, Nat.le_refl _, e⟩) (fun a ha => hAo a (hg a ha)) ?_ ?_ ?_ hsc hx hk ho fun s₃ sp₃ hkeep₃ => ?_)
      · intro h1 a t e
        unfold itemLv at h1
        split at h1
        · rename_i hfl; rw [rg.flat_fp hfl] at e; cases e
        · omega
      · intro h1
        unfold itemLv at h1
        split at h1
        · rename_i hfl; rw [rg.flat_fp hfl]; exact ⟨fun _ h => (nomatch h), .nil⟩
        · omega
      · intro b j d' l' hj e h hb
        exact hAi b (hg b hb) (.inr (.inr ⟨j, d', l', e, h⟩))
      have sp₂₃ := sp₂.trans sp₃
      have hR₃ := sp₂₃.room iv hR
      have hex₂ : ∀ b, h₂.get? b = none → s₂.heap.get? b = none := fun b hb => by
        by_cases q : b = I
        · obtain ⟨oI, _, z, _⟩ := hWI (i + 1) _ hW₂; rw [q, z] at hb; exact son hb
        · refine hexi b ?_
          cases e : s'.heap.get? b with
          | none => rfl
          | some o => have := hk₂ b o (by simpa using q) e; rw [hb] at this; exact nos this
      have hgr₃ : ∀ b, Own (Γi.set ix (some (d, itemLv d))) (fun j => if j = ix then (v, g) else vfi j) b → Own (dropL occ Γ) vf b ∨ s₂.heap.get? b = none := fun b hb => by
        rcases sp₃.gr b hb with q | q
        · exact hgr b q
        · exact .inr (hex₂ b q)
      have hkp₃ : KpP (fun b => b = I ∨ Mut env (dropL occ Γ) vf b) s₂.heap s₃.heap := hkp₂.trans sp₃.kp fun b o e hP => hmut Γi vfi hgr b o e fun q => hP (.inr q)
      have hex₃ : ∀ b, s₃.heap.get? b = none → s₂.heap.get? b = none := fun b hb => hex₂ b (sp₃.ex b hb)
      have hprot : ∀ b ∈ fp, ∀ Γj vfj, (∀ b, Own Γj vfj b → Own (dropL occ Γ) vf b ∨ s₂.heap.get? b = none) → ¬ Mut env Γj vfj b := fun b hb Γj vfj hg => by
        rcases hfpA rfl b hb with rfl | w
        · exact hmut Γj vfj hg b oI2 hI2e hIM
        · obtain ⟨o, e1, _⟩ := hAl b w
          exact hmut Γj vfj hg b o e1 (hA b w)
      have hfpn : ∀ (j : Nat) (hh : Heap), W j hh → KpP (fun b => b = I ∨ Mut env (dropL occ Γ) vf b) s₂.heap hh → ∀ b ∈ fp, ∀ o, hh.get? b = some o → NotDict o := fun j hh hWj hk b hb o e => by
        by_cases q : b = I
        · subst q
          obtain ⟨o', T, e', nd, _⟩ := hWI j hh hWj
          rw [e] at e'; obtain rfl := Option.some.inj e'; exact nd
        · obtain ⟨o', e', nd⟩ := hfp b hb q
          have hM : ¬ Mut env (dropL occ Γ) vf b := hprot b hb _ _ fun b hb => .inl hb
          have := (hk b o' (fun z => z.elim q hM) e').1 nd
          rw [e] at this; obtain rfl := Option.some.inj this; exact nd
      have hW₃ : W (i + 1) s₃.heap := hW.frame _ _ _ hW₂ fun b hb o e => (sp₃.kp b o (hprot b hb _ _ hgr) e).1 (hfpn (i + 1) _ hW₂ hkp₂ b hb o e)
      cases hfb : fB (Γi.set ix (some (d, itemLv d))) with
      | none => rw [hfb] at hl; exact nos hl
      | some o =>
        rw [hfb] at hl
        have cont : ∀ Γ' vf' s₄, Stp c h₀ f₀ env nm (Γi.set ix (some (d, itemLv d))) (fun j => if j = ix then (v, g) else vfi j) s₃ Γ' vf' s₄ → loopF fB ix (xs.drop (i + 1)) Γ' = some r →
            ∃ m, m < xs.length + 1 - i ∧ FInv (fun Γi vfi s' => Stp c h₀ f₀ env nm Γ vf s Γi vfi s') W (loopF fB ix) r xs (fun h' => KpP (fun b => b = I ∨ Mut env (dropL occ Γ) vf b) s₂.heap h') (fun Γi vfi => ∀ b, Own Γi vfi b → Own (dropL occ Γ) vf b ∨ s₂.heap.get? b = none) s₂.heap s₄ m := by
          intro Γ' vf' s₄ sp₄ hl'
          refine ⟨xs.length + 1 - (i + 1), by omega, .mk (sp₂₃.trans sp₄) ?_ hl' hlt ?_ (fun b hb => ?_) fun b hb => hex₃ b (sp₄.ex b hb)⟩
          · exact hW.frame _ _ _ hW₃ fun b hb o e => (sp₄.kp b o (hprot b hb _ _ hgr₃) e).1 (hfpn (i + 1) _ hW₃ hkp₃ b hb o e)
          · exact hkp₃.trans sp₄.kp fun b o e hP => hmut _ _ hgr₃ b o e fun q => hP (.inr q)
          · rcases sp₄.gr b hb with q | q
            · exact hgr₃ b q
            · exact .inr (hex₃ b q)
        refine hB A l env h₀ f₀ _ _ s₃ o _ _ hsF hR₃ sp₃.iv hfb (fun w s₄ p => ?_) (fun y s₄ p => ?_)
        · cases o with
          | next Γ' =>
            cases w <;> first | exact p.elim | skip
            obtain ⟨vf', p⟩ := p
            exact cont Γ' vf' s₄ p hl
          | cont Γ' =>
            cases w <;> first | exact p.elim | skip
            obtain ⟨vf', p⟩ := p
            exact cont Γ' vf' s₄ p hl
          | brk Γ' =>
            cases w <;> first | exact p.elim | skip
            obtain rfl := Option.some.inj hl
            obtain ⟨vf', p⟩ := p
            exact hQ _ _ ⟨vf', sp₂₃.trans p⟩
          | ret d lv =>
            cases w <;> first | exact p.elim | skip
            obtain rfl := Option.some.inj hl
            exact hQ _ _ (Post.back (nm := nm) (o := .ret d lv) (f := .ret _) sp₂₃ p)
          | exc k Γ' => exact nos hl
          | raise k => exact nos hl
        · cases o <;> first | exact p.elim | cases hl
    · have hin : i = xs.length := by omega
      subst hin
      rw [List.drop_length] at hl
      obtain rfl := Option.some.inj hl
      refine wpAny_with_toks sp.iv.rd.bs.2 (hW.done _ _ _ hWi fun h₂ tk₂ hk₂ ht₂ => ?_)
      exact wpAny_execs_nil (hQ _ _ ⟨vfi, sp.iter hIn hIo' hIi hk₂ ht₂ hI0⟩)
  · exact FInv.mk (i := 0) start h0 h2 (Nat.zero_le _) (KpP.refl _ _) (fun b hb => .inl hb) fun b hb => hb
end
end Mine
namespace Mine
open PySem PySem.Calls PyProof.Rows PySem.SeqAt

section
variable {c : Cx} {hm : Bool} {n : Nat} {sc : Scope} {nm : List Str} {h₀ : Heap} {f₀ : List Addr} {env : Env} {Γ Γ' Γ'' : G} {vf vf' vf'' : Nat → Value × List Addr} {s s' s'' : Shared}

noncomputable def whileF (fT : G → Option (R Bool)) (fB : G → Option O) : Nat → G → Option O
  | 0, _ => none
  | k + 1, Γ => match fT Γ with
    | some (.ok true) => (match fB Γ with
      | some (.next Γ') => whileF fT fB k Γ'
      | some (.cont Γ') => whileF fT fB k Γ'
      | some (.brk Γ') => some (.next Γ')
      | some (.ret d lv) => some (.ret d lv)
      | _ => none)
    | some (.ok false) => some (.next Γ)
    | _ => none

theorem denS_while {test : Expr} {body : List Stmt} {pos : Pos} {fT : G → Option (R Bool)} {fB : G → Option O} (fuel : Nat) (hT : DenB c hm n sc nm test fT) (hB : DenSs c hm n sc nm body fB) :
    DenS c hm n sc nm (.While test body [] pos) (whileF fT fB fuel) := by
  intro A l env h₀ f₀ Γ vf s r Q E hsF hR iv hf hQ hE
  have hsc := hsF.1
  refine wpAny_While ?_
  refine codeAny_whileLoop (fun k s' => ∃ Γi vfi, Stp c h₀ f₀ env nm Γ vf s Γi vfi s' ∧ whileF fT fB k Γi = some r) ?_ fuel ⟨Γ, vf, iv.step (St.refl iv.rd.bs), hf⟩
  rintro k s' ⟨Γi, vfi, sp, hw⟩
  cases k with
  | zero => exact nos hw
  | succ k =>
    rw [whileF] at hw
    have hR' := sp.room iv hR
    cases hft : fT Γi with
    | none => rw [hft] at hw; exact nos hw
    | some rb =>
      rw [hft] at hw
      cases rb with
      | exc k => exact nos hw
      | ok b =>
        refine hT A l env Γi vfi s' _ _ _ hsc hR' sp.iv.rd hft (fun b' s₁ e st => ?_) (fun x k s' e => by cases e)
        cases e
        have sp₁ := sp.trans (sp.iv.step st)
        cases b with
        | false =>
          obtain rfl := Option.some.inj hw
          exact wpAny_execs_nil (hQ _ _ ⟨vfi, sp₁⟩)
        | true =>
          simp only [if_true]
          dsimp only at hw
          cases hfb : fB Γi with
          | none => rw [hfb] at hw; exact nos hw
          | some o =>
            rw [hfb] at hw
            refine hB A l env h₀ f₀ Γi vfi s₁ o _ _ hsF (sp₁.room iv hR) sp₁.iv hfb (fun w s₄ p => ?_) (fun y s₄ p => ?_)
            · cases o with
              | next Γ' =>
                cases w <;> first | exact p.elim | skip
                obtain ⟨vf', p⟩ := p
                exact ⟨k, Nat.lt_succ_self _, Γ', vf', sp₁.trans p, hw⟩
              | cont Γ' =>
                cases w <;> first | exact p.elim | skip
                obtain ⟨vf', p⟩ := p
                exact ⟨k, Nat.lt_succ_self _, Γ', vf', sp₁.trans p, hw⟩
              | brk Γ' =>
                cases w <;> first | exact p.elim | skip
                obtain rfl := Option.some.inj hw
                obtain ⟨vf', p⟩ := p
                exact hQ _ _ ⟨vf', sp₁.trans p⟩
              | ret d lv =>
                cases w <;> first | exact p.elim | skip
                obtain rfl := Option.some.inj hw
                exact hQ _ _ (Post.back (nm := nm) (o := .ret d lv) (f := .ret _) sp₁ p)
              | exc k Γ' => exact nos hw
              | raise k => exact nos hw
            · cases o <;> first | exact p.elim | cases hw
end
end Mine
namespace Mine
open PySem PySem.Calls PyProof.Rows PySem.SeqAt

-- an exception that bears no context
noncomputable def Cx0 (h : Heap) (e : Addr) : Prop := ∃ o vs, h.get? e = some o ∧ o.data = .fields vs ∧ vs[2]? = some .none ∧ o.dict = none
theorem dict_mapFields (f : Array Value → Array Value) : ∀ o : Obj, (Obj.mapFields f o).dict = o.dict
  | ⟨_, _, .fields _, _⟩ => rfl
  | ⟨_, _, d, _⟩ => by cases d <;> rfl

section
variable {M : Model} {A : Around} {E : Value → Shared → Prop} {s : Shared} {base : Heap} {env : Env} {outer : List Env} {L e : Addr}

theorem entry0 {oe : Obj} {vs : Array Value} {head a0 : Value} {hadNext : Bool} {Q : Unit → Shared → Prop}
    (hfr : A.frames = some (env :: outer)) (hl : s.heap.FunFrames base (env :: outer)) (hf : env.frame = some L)
    (he : s.heap.get? e = some oe) (hkb : base.StaysIn s.heap) (hen : base.get? e = none) (hd : oe.data = .fields vs) (hsz : 1 < vs.size) (h0 : vs[0]? = some a0) (h2 : vs[2]? = some .none) (h4 : oe.dict = none)
    (h : ∀ h', Heap.NotedW base (env :: outer) e oe.cls a0 (rawInt L) s.heap h' → Cx0 h' e → Q () { s with heap := h' }) :
    wpAny M A (do let a ← frameOf env; let pl ← entryPlaceOf L hadNext; let b ← EntryCells.newEntry head a .none (rawInt L) .none pl; setField (.ref e) 1 b) Q E s := by
  have hene : e ∉ (env :: outer).filterMap (·.frame) := fun hm => by
    obtain ⟨_, o, ho, hnf⟩ := hl.mem hm
    rw [he] at ho; obtain rfl := Option.some.inj ho; exact hnf vs hd
  refine wpAny_bind (wpAny_frameOf_fun hfr hl hf fun h₁ hs₁ => ?_)
  refine wpAny_bind (wpAny_entryPlaceOf fun pl hpl => ?_)
  unfold EntryCells.newEntry newFields
  refine wpAny_bind (wpAny_newObj_type ?_ (hpl.sizeOk5 _ _ _ _ _))
  have he₁ : h₁.get? e = some oe := (hs₁.2.1 e hene).trans he
  have kb₁ : base.StaysIn h₁ := fun b o hbo => (hs₁.2.1 b fun hm => by rw [(hl.mem hm).1] at hbo; exact nos hbo).trans (hkb b o hbo)
  generalize hob : ({ cls := .type "traceback", dict := none, data := .fields ([head, .ref L, .none, rawInt L, .none] ++ (if pl.isEmpty then List.replicate 6 Value.none else pl)).toArray } : Obj) = ob
  have he₂ := Heap.get?_push_of_some (h := h₁) ob he₁
  refine wpAny_setField he₂ hd hsz (h _ ?_ ?_)
  · have hTe : h₁.objs.size ≠ e := Nat.ne_of_gt (Heap.lt_size he₁)
    have hd₃ := Obj.data_mapFields hd (·.setIfInBounds 1 (Value.ref h₁.objs.size))
    have he₃ := Heap.get?_update_self (Obj.mapFields (·.setIfInBounds 1 (Value.ref h₁.objs.size))) he₂ (Obj.isFreed_of_fields hd₃)
    have hT₃ := (Heap.get?_update_other (h₁.push ob) (Obj.mapFields (·.setIfInBounds 1 (Value.ref h₁.objs.size))) (Ne.symm hTe)).trans (Heap.get?_push_size h₁ (by rw [← hob]; rfl))
    have keep : ∀ b o, b ≠ e → h₁.get? b = some o → ((h₁.push ob).update e (Obj.mapFields (·.setIfInBounds 1 (Value.ref h₁.objs.size)))).get? b = some o := fun b o hbe hb => by
      rw [Heap.get?_update_other _ _ (Ne.symm hbe)]
      exact Heap.get?_push_of_some _ hb
    have noRecord : ∀ b o, s.heap.get? b = some o → (∀ vs, o.data ≠ .fields vs) → b ≠ e := fun b o hb hnf q => by
      rw [q, he] at hb; obtain rfl := Option.some.inj hb; exact hnf vs hd
    refine ⟨fun b o hbo => keep b o (fun q => by rw [q, hen] at hbo; exact nos hbo) (kb₁ b o hbo), hl.of_keeps fun b o hb hnf => ?_, ?_, fun b o hb hnf => ?_⟩
    · obtain ⟨sl, hs⟩ := hs₁.2.2 b o hb
      exact ⟨_, keep b _ (noRecord b o hb hnf) hs, rfl⟩
    · exact ⟨_, _, h₁.objs.size, _, _, he₃, ⟨Obj.cls_mapFields _ _, by rw [Array.getElem?_setIfInBounds_ne (by decide)]; exact h0⟩, hd₃, by simp [hsz], kb₁.fresh, hTe, hT₃, by rw [← hob], by first | (simp; done) | (rcases hpl with rfl | ⟨_, _, _, _, _, _, _, rfl⟩ <;> simp)⟩
    · obtain ⟨sl, hs⟩ := hs₁.2.2 b o hb
      exact ⟨sl, keep b _ (noRecord b o hb hnf) hs⟩
  · have hd₃ := Obj.data_mapFields hd (·.setIfInBounds 1 (Value.ref h₁.objs.size))
    exact ⟨_, _, Heap.get?_update_self _ he₂ (Obj.isFreed_of_fields hd₃), hd₃, by rw [Array.getElem?_setIfInBounds_ne (by decide)]; exact h2, (dict_mapFields ..).trans h4⟩

theorem note0 {cls a0 : Value} {Q : Unit → Shared → Prop}
    (hfr : A.frames = some (env :: outer)) (hf : env.frame = some L) (hfl : Heap.FlyingW base (env :: outer) e cls a0 s.heap) (hc : Cx0 s.heap e)
    (hQ : ∀ h', Heap.HeldW base (env :: outer) e cls a0 L h' → Cx0 h' e → s.heap.UpToSlots h' → Q () { s with heap := h' }) : wpAny M A (noteFrame (.ref e) env) Q E s := by
  obtain ⟨hkb, hen, hl, oe, vs, T, oT, ts, he, ⟨hcls, h0⟩, hd, h1, hnT, hTe, hT, hdT, h3⟩ := hfl
  obtain ⟨o', vs', c1, c2, c3, c4⟩ := hc
  rw [he] at c1; obtain rfl := Option.some.inj c1
  rw [hd] at c2; cases c2
  subst hcls
  unfold noteFrame
  simp only [hf]
  refine wpAny_bind (wpAny_field he hd h1 ?_)
  rw [if_pos (show (Value.ref T != Value.none) = true from by simp)]
  refine wpAny_bind (wpAny_field hT hdT h3 ?_)
  rw [if_neg (show ¬ ((Value.none == rawInt L) = true) from by simp [rawInt])]
  refine wpAny_bind (wpAny_setField hT hdT (Array.getElem?_eq_some_iff.mp h3).1 ?_)
  have other : ∀ b, b ≠ T → (s.heap.update T (Obj.mapFields (·.setIfInBounds 3 Value.none))).get? b = s.heap.get? b := fun b hb => Heap.get?_update_other _ _ (Ne.symm hb)
  have noRecord : ∀ b o, s.heap.get? b = some o → (∀ vs, o.data ≠ .fields vs) → b ≠ T := fun b o hb hnf q => by
    rw [q, hT] at hb; obtain rfl := Option.some.inj hb; exact hnf ts hdT
  refine entry0 hfr (hl.of_keeps fun b o hb hnf => ⟨o, (other b (noRecord b o hb hnf)).trans hb, rfl⟩) hf ((other e (Ne.symm hTe)).trans he)
    (fun b o hbo => (other b fun q => by rw [q, hnT] at hbo; exact nos hbo).trans (hkb b o hbo)) hen hd (Array.getElem?_eq_some_iff.mp h1).1 h0 c3 c4
    fun h' ⟨x1, x2, x3, x4⟩ hc' => hQ h' ⟨x1, hen, x2, x3⟩ hc' fun b o hb hnf => x4 b o ((other b (noRecord b o hb hnf)).trans hb) hnf

theorem lands1 {l : List Env} {cls a0 fl : Value} {Q : Unit → Shared → Prop} (hkb : base.StaysIn s.heap) (hen : base.get? e = none) (hl : s.heap.FunFrames base l) (ht : s.heap.TracedAtW base e cls a0 fl) (hc : Cx0 s.heap e)
    (hQ : ∀ h', Heap.FlyingW base l e cls a0 h' → Cx0 h' e → (∀ b o, s.heap.get? b = some o → (∀ vs, o.data ≠ .fields vs) → h'.get? b = some o) → Q () { s with heap := h' }) : wpAny M A (setFlight (.ref e) none) Q E s := by
  obtain ⟨oe, vs, T, oT, ts, he, hcls, hd, h1, hnT, hTe, hT, hdT, h3⟩ := ht
  obtain ⟨o', vs', c1, c2, c3, c4⟩ := hc
  rw [he] at c1; obtain rfl := Option.some.inj c1
  rw [hd] at c2; cases c2
  have hsz3 : 3 < ts.size := (Array.getElem?_eq_some_iff.mp h3).1
  have other : ∀ b, b ≠ T → (s.heap.update T (Obj.mapFields (·.setIfInBounds 3 ((none : Option Addr).elim Value.none fun f => rawInt f)))).get? b = s.heap.get? b := fun b hb => Heap.get?_update_other _ _ (Ne.symm hb)
  have noRecord : ∀ b o, s.heap.get? b = some o → (∀ vs, o.data ≠ .fields vs) → b ≠ T := fun b o hb hnf q => by
    rw [q, hT] at hb; obtain rfl := Option.some.inj hb; exact hnf ts hdT
  unfold setFlight
  refine wpAny_bind (wpAny_field he hd h1 ?_)
  rw [if_pos (show (Value.ref T != Value.none) = true from by simp)]
  refine wpAny_setField hT hdT hsz3 (hQ _ ⟨fun b o hbo => (other b fun q => by rw [q, hnT] at hbo; exact nos hbo).trans (hkb b o hbo), hen,
    hl.of_keeps fun b o hb hnf => ⟨o, (other b (noRecord b o hb hnf)).trans hb, rfl⟩, ?_⟩ ⟨oe, vs, (other e (Ne.symm hTe)).trans he, hd, c3, c4⟩ fun b o hb hnf => (other b (noRecord b o hb hnf)).trans hb)
  exact ⟨oe, vs, T, _, _, (other e (Ne.symm hTe)).trans he, hcls, hd, h1, hnT, hTe, Heap.get?_update_self _ hT (Obj.isFreed_of_fields (Obj.data_mapFields hdT _)), Obj.data_mapFields hdT _, by simp [hsz3]⟩

theorem lands0 {l : List Env} {cls a0 : Value} {Q : Unit → Shared → Prop} (hh : Heap.HeldW base l e cls a0 L s.heap) (hc : Cx0 s.heap e)
    (hQ : ∀ h', Heap.FlyingW base l e cls a0 h' → Cx0 h' e → (∀ b o, s.heap.get? b = some o → (∀ vs, o.data ≠ .fields vs) → h'.get? b = some o) → Q () { s with heap := h' }) : wpAny M A (setFlight (.ref e) none) Q E s := by
  exact lands1 hh.1 hh.2.1 hh.2.2.1 hh.2.2.2 hc hQ

theorem leaves_on0 {cls a0 : Value} {Q : Unit → Shared → Prop}
    (hfr : A.frames = some (env :: outer)) (hf : env.frame = some L) (hfl : Heap.FlyingW base (env :: outer) e cls a0 s.heap) (hc : Cx0 s.heap e)
    (hQ : ∀ h', Heap.FlyingW base outer e cls a0 h' → Cx0 h' e → s.heap.UpToSlots h' → Q () { s with heap := h' }) : wpAny M A (leaving env (.ref e)) Q E s := by
  unfold leaving
  refine wpAny_bind (note0 hfr hf hfl hc fun h' hh hc' hu => lands0 (s := { s with heap := h' }) hh hc' fun h'' hfl' hc'' hk => hQ h'' ?_ hc'' (hu.trans fun b o hb hn => ⟨o.slots, hk b o hb hn⟩))
  obtain ⟨k1, k2, ⟨_, _, k3⟩, k4⟩ := hfl'
  exact ⟨k1, k2, k3, k4⟩

theorem leaves_made0 {h : Heap} {cls : Value} {args : List Value} {Q : Unit → Shared → Prop}
    (hfr : A.frames = some (env :: outer)) (hf : env.frame = some L) (hkb : base.StaysIn h) (hl : h.FunFrames base (env :: outer)) (hx : Heap.MadeExcOf h s.heap e cls args)
    (hQ : ∀ h' t, Heap.FlyingW base outer e cls (.ref t) h' → Cx0 h' e → s.heap.UpToSlots h' → Q () { s with heap := h' }) : wpAny M A (leaving env (.ref e)) Q E s := by
  obtain ⟨t, he, htn, ht⟩ := hx.there
  have fresh : ∀ b, h.get? b = none → base.get? b = none := fun b hb => by
    cases hq : base.get? b with
    | none => rfl
    | some o' => have := hkb b o' hq; rw [hb] at this; exact nos this
  unfold leaving noteFrame
  simp only [hf]
  refine wpAny_bind (wpAny_bind (wpAny_field he rfl (x := .none) rfl ?_))
  rw [if_neg (by decide)]
  refine entry0 (a0 := .ref t) hfr (hl.of_keeps fun b o hb _ => ⟨o, hx.keeps b o hb, rfl⟩) hf he (fun b o hb => hx.keeps b o (hkb b o hb)) (fresh e hx.new) rfl (show 1 < 6 by decide) rfl rfl rfl fun h' hN hc' => ?_
  obtain ⟨x1, x2, x3, x4⟩ := hN
  refine lands0 (s := { s with heap := h' }) (L := L) ⟨x1, fresh e hx.new, x2, x3⟩ hc' fun h'' hfl' hc'' hk => hQ h'' t ?_ hc'' (Heap.UpToSlots.trans (show s.heap.UpToSlots h' from x4) fun b o hb hn => ⟨o.slots, hk b o hb hn⟩)
  obtain ⟨k1, k2, ⟨_, _, k3⟩, k4⟩ := hfl'
  exact ⟨k1, k2, k3, k4⟩
end
end Mine
namespace Mine
open PySem PySem.Calls PyProof.Rows PySem.SeqAt

-- a heap without its frames
noncomputable def thin (cb h : Heap) : Heap := { h with objs := h.objs.mapIdx fun i o => if (cb.get? i).isSome then o else match o.data with | .dict _ _ => { o with data := .freed } | _ => o }
theorem get_iff {h : Heap} {b : Addr} {o : Obj} : h.get? b = some o ↔ h.objs[b]? = some o ∧ o.data ≠ .freed := by
  unfold Heap.get?
  constructor
  · intro e
    split at e
    · exact nos e
    · rename_i o' hne
      refine ⟨e, fun q => ?_⟩
      obtain ⟨a, b', d, sl⟩ := o
      dsimp only at q
      subst q
      exact hne _ _ _ e
  · rintro ⟨e, hne⟩
    split
    · rename_i e'
      rw [e] at e'; obtain rfl := Option.some.inj e'; exact absurd rfl hne
    · exact e
theorem thin_get {cb h : Heap} {b : Addr} : (thin cb h).objs[b]? = (h.objs[b]?).map fun o => if (cb.get? b).isSome then o else match o.data with | .dict _ _ => { o with data := .freed } | _ => o := by
  unfold thin
  simp only [Array.getElem?_mapIdx]
theorem thin_keep {cb h : Heap} {b : Addr} {o : Obj} (e : h.get? b = some o) (hc : NotDict o ∨ ∃ o', cb.get? b = some o') : (thin cb h).get? b = some o := by
  obtain ⟨e1, e2⟩ := get_iff.mp e
  refine get_iff.mpr ⟨?_, e2⟩
  rw [thin_get, e1, Option.map_some]
  rcases hc with hc | ⟨o', hc⟩
  · congr 1
    split
    · rfl
    · split
      · rename_i q; exact absurd q (hc _ _)
      · rfl
  · rw [hc]; rfl
theorem thin_stays {cb h : Heap} : (thin cb h).StaysIn h := by
  intro b o e
  obtain ⟨e1, e2⟩ := get_iff.mp e
  rw [thin_get] at e1
  obtain ⟨o', e3, e4⟩ := Option.map_eq_some_iff.mp e1
  split at e4
  · subst e4; exact get_iff.mpr ⟨e3, e2⟩
  · split at e4
    · subst e4; exact absurd rfl e2
    · subst e4; exact get_iff.mpr ⟨e3, e2⟩
theorem thin_none {cb h : Heap} {b : Addr} {o : Obj} {es : Array DictEntry} {n : Nat} (e : h.get? b = some o) (hd : o.data = .dict es n) (hc : cb.get? b = none) : (thin cb h).get? b = none := by
  obtain ⟨e1, e2⟩ := get_iff.mp e
  cases q : (thin cb h).get? b with
  | none => rfl
  | some o' =>
    obtain ⟨q1, q2⟩ := get_iff.mp q
    rw [thin_get, e1, Option.map_some, hc] at q1
    simp only [Option.isSome_none, Bool.false_eq_true, if_false, hd, Option.some.injEq] at q1
    subst q1
    exact absurd rfl q2

-- what a call's arguments are, one by one
theorem Rps.each {X : Str → Option Value} {h : Heap} {vs : List Value} {ds : List D} {fp : List Addr} (r : Rps X h vs ds fp) : ∃ vf : Nat → Value × List Addr, (∀ (i : Nat) (d : D), ds[i]? = some d → vs[i]? = some (vf i).1 ∧ Rp X h (vf i).1 d (vf i).2) ∧ (∀ i a, a ∈ (vf i).2 → a ∈ fp) :=
  r.ind (Ps := fun vs ds fp => ∃ vf : Nat → Value × List Addr, (∀ (i : Nat) (d : D), ds[i]? = some d → vs[i]? = some (vf i).1 ∧ Rp X h (vf i).1 d (vf i).2) ∧ (∀ i a, a ∈ (vf i).2 → a ∈ fp)) ⟨fun _ => (.none, []), fun _ _ e => (nomatch e), fun _ _ ha => (nomatch ha)⟩
    (fun {v _ _ _ f _} r _ ih => by
      obtain ⟨vf, h1, h2⟩ := ih
      refine ⟨fun i => Nat.casesOn i (v, f) vf, fun i d' e => ?_, fun i a ha => ?_⟩
      · cases i with
        | zero => exact ⟨rfl, Option.some.inj e ▸ r⟩
        | succ j => exact h1 j d' e
      · cases i with
        | zero => exact List.mem_append_left _ ha
        | succ j => exact List.mem_append_right _ (h2 j a ha))

theorem bindL_other (k : Str → Option NameKind) {x : Str} : ∀ (l : List (Str × Value)) (m : Str → Option Value), (∀ p ∈ l, p.1 ≠ x) → bindL k l m x = m x
  | [], _, _ => rfl
  | (y, v) :: r, m, h => by
    rw [bindL, bindL_other k r _ fun p hp => h p (List.mem_cons_of_mem _ hp)]
    split
    · have : x ≠ y := fun q => h _ (List.mem_cons_self ..) q.symm
      simp [this]
    · rfl
theorem bindL_get (k : Str → Option NameKind) {x : Str} {v : Value} (hk : k x = some .local) : ∀ (l : List (Str × Value)) (m : Str → Option Value), (l.map (·.1)).Nodup → (x, v) ∈ l → bindL k l m x = some v
  | (y, w) :: r, m, hn, h => by
    rw [List.map_cons, List.nodup_cons] at hn
    rw [bindL]
    rcases List.mem_cons.mp h with e | h
    · cases e
      rw [bindL_other k r _ fun p hp q => hn.1 (List.mem_map.mpr ⟨p, hp, q⟩), if_pos hk]
      simp
    · exact bindL_get k hk r _ hn.2 h
theorem bindC_other (k : Str → Option NameKind) {x : Str} : ∀ (l : List (Str × Value)) (m : Str → Option Value), (∀ p ∈ l, p.1 ≠ x) → bindC k l m x = m x
  | [], _, _ => rfl
  | (y, v) :: r, m, h => by
    rw [bindC, bindC_other k r _ fun p hp => h p (List.mem_cons_of_mem _ hp)]
    split
    · rfl
    · have : x ≠ y := fun q => h _ (List.mem_cons_self ..) q.symm
      simp [this]
theorem bindC_get (k : Str → Option NameKind) {x : Str} {v : Value} (hk : k x ≠ some .local) : ∀ (l : List (Str × Value)) (m : Str → Option Value), (l.map (·.1)).Nodup → (x, v) ∈ l → bindC k l m x = some v
  | (y, w) :: r, m, hn, h => by
    rw [List.map_cons, List.nodup_cons] at hn
    rw [bindC]
    rcases List.mem_cons.mp h with e | h
    · cases e
      rw [bindC_other k r _ fun p hp q => hn.1 (List.mem_map.mpr ⟨p, hp, q⟩), if_neg hk]
      simp
    · exact bindC_get k hk r _ hn.2 h
theorem cellsFrom_there {x : Str} : ∀ (names : List (Str × NameKind)) (n : Nat) (acc : List (Str × Addr)), names.lookup x = some .cell ∨ (acc.lookup x).isSome = true → ((cellsFrom n names acc).lookup x).isSome = true
  | [], _, _, h => h.elim (fun e => by exact nos e) id
  | (y, k) :: r, n, acc, h => by
    rw [cellsFrom]
    cases hy : x == y with
    | true =>
      split
      · exact cellsFrom_there r (n + 1) _ (.inr (by rw [List.lookup_cons, hy]; rfl))
      · rename_i hk
        refine cellsFrom_there r n acc (.inr ?_)
        rcases h with e | e
        · rw [List.lookup_cons, hy] at e; obtain rfl := Option.some.inj e; exact absurd rfl hk
        · exact e
    | false =>
      split
      · refine cellsFrom_there r (n + 1) _ (h.imp (fun e => ?_) fun e => ?_)
        · rw [List.lookup_cons, hy] at e; exact e
        · rw [List.lookup_cons, hy]; exact e
      · refine cellsFrom_there r n acc (h.imp (fun e => ?_) id)
        rw [List.lookup_cons, hy] at e; exact e
theorem mem_of_lookupA : ∀ {l : List (Str × Addr)} {y : Str} {a : Addr}, l.lookup y = some a → (y, a) ∈ l
  | [], _, _, h => by exact nos h
  | (x, k') :: r, y, k, h => by
    rw [List.lookup_cons] at h
    cases hb : y == x with
    | true => rw [hb] at h; obtain rfl := Option.some.inj h; rw [beq_iff_eq] at hb; subst hb; exact List.mem_cons_self ..
    | false => rw [hb] at h; exact List.mem_cons_of_mem _ (mem_of_lookupA h)
theorem apart_lookup : ∀ {l : List (Str × Addr)} {x y : Str} {a : Addr}, l.Pairwise (fun x y => x.2 ≠ y.2) → l.lookup x = some a → l.lookup y = some a → x = y
  | [], _, _, _, _, h, _ => by exact nos h
  | (z, b) :: r, x, y, a, hp, h1, h2 => by
    rw [List.pairwise_cons] at hp
    rw [List.lookup_cons] at h1 h2
    cases hx : x == z with
    | true =>
      rw [hx] at h1; obtain rfl := Option.some.inj h1
      rw [beq_iff_eq] at hx; subst hx
      cases hy : y == x with
      | true => rw [beq_iff_eq] at hy; exact hy.symm
      | false => rw [hy] at h2; exact absurd rfl (hp.1 (y, b) (mem_of_lookupA h2))
    | false =>
      rw [hx] at h1
      cases hy : y == z with
      | true => rw [hy] at h2; obtain rfl := Option.some.inj h2; exact absurd rfl (hp.1 (x, b) (mem_of_lookupA h1))
      | false => rw [hy] at h2; exact apart_lookup hp.2 h1 h2
end Mine
namespace Mine
open PySem PySem.Calls PyProof.Rows PySem.SeqAt

section
variable {c : Cx} {hm : Bool} {n : Nat}

noncomputable def outF : Option O → Option (R (D × Nat))
  | some (.next _) => some (.ok (.none, 2))
  | some (.ret d lv) => some (.ok (d, lv))
  | some (.exc k _) => some (.exc k)
  | some (.raise k) => some (.exc k)
  | _ => none
noncomputable def argG (k : Nat) (ds : List D) : G := ds.map (fun d => some (d, itemLv d)) ++ List.replicate k none
noncomputable def fnF (np k : Nat) (f : G → Option O) (ds : List D) : Option (R (D × Nat)) := if ds.length = np then outF (f (argG k ds)) else none

theorem argG_get {k : Nat} {ds : List D} {i : Nat} {d : D} {lv : Nat} (h : (argG k ds)[i]? = some (some (d, lv))) : ds[i]? = some d ∧ lv = itemLv d := by
  unfold argG at h
  rw [List.getElem?_append] at h
  split at h
  · rw [List.getElem?_map] at h
    obtain ⟨d', h1, h2⟩ := Option.map_eq_some_iff.mp h
    cases h2
    exact ⟨h1, rfl⟩
  · rw [List.getElem?_replicate] at h
    split at h <;> cases h

theorem kp_out {L : Addr} {h₀ h₁ h' bs : Heap} (k : KpP (fun _ => False) h₀ h₁) (hb : ∀ b o, h₁.get? b = some o → NotDict o → bs.get? b = some o) (hs : bs.StaysIn h')
    (hd : ∀ b o, h₀.get? b = some o → (∀ vs, o.data ≠ .fields vs) → ∃ sl, h'.get? b = some { o with slots := sl }) : Kp L h₀ h' := by
  have kb : KpB [] h₀ h' := fun b o _ e => by
    have h1 : NotDict o → h'.get? b = some o := fun nd => hs b o (hb b o ((k b o id e).1 nd) nd)
    refine ⟨h1, ?_⟩
    by_cases nd : NotDict o
    · exact ⟨o.slots, h1 nd⟩
    · refine hd b o e fun vs q => nd (notDict_of_fields q)
  exact kb.kp (by simp)
theorem kp_in {L : Addr} {h₀ h' : Heap} (k : KpP (fun _ => False) h₀ h') : Kp L h₀ h' := by
  have kb : KpB [] h₀ h' := fun b o _ e => k b o id e
  exact kb.kp (by simp)

/-- static facts of a def -/
noncomputable def defOk (scope : Scope) (ps nm : List Str) : Bool :=
  ps.isPrefixOf nm && decide nm.Nodup && ps.all (fun x => stK scope x && okNm x) && decide (scope.kind = .function) && scope.isCoroutine == false && scope.isGenerator == false

theorem newEnv1 {M : Model} {A : Around} {E : Value → Shared → Prop} {s : Shared} {scope : Scope} {globals : Addr} {x : Str} {v : Value} {qual : Str} {func : Option Addr} {code : Value} {builtins : Addr} {Q : Env → Shared → Prop}
    (hk : scope.kind = .function) (hl : scope.names.lookup x = some .local)
    (hQ : ∀ env, env = newEnv scope s.heap.objs.size globals (cellsFrom (s.heap.objs.size + 1) scope.names []) qual func code none builtins →
      ∀ s', InCallC s env.locals (bindL env.kindOf [(x, v)] fun _ => none) env.cells (bindC env.kindOf [(x, v)] fun _ => none) s' → 1 ≤ s'.toks → Q env s') :
    wpAny M A (newFunctionEnv scope globals [] [(x, v)] qual func code none builtins) Q E s := by
  simp only [newFunctionEnv, Option.isSome_none, Bool.false_eq_true, if_false]
  refine wpAny_bind (wpAny_alloc ?_)
  refine wpAny_bind (wpAny_layCells _ (fun name kind cells => by cases hkc : kind == NameKind.cell <;> simp [hkc]) _ _ _ _ ?_)
  have ok := cellsFrom_ok scope.names (s.heap.push { cls := .type "frame", data := .dict #[] }) (s.heap.objs.size + 1) [] ⟨fun _ _ hm => (nomatch hm), List.Pairwise.nil⟩ (by rw [Heap.size_push]; exact Nat.le_refl _)
  rw [Heap.size_push] at ok
  rw [show ({ s with heap := s.heap.push { cls := .type "frame", data := .dict #[] } } : Shared).heap.objs.size = s.heap.objs.size + 1 from Heap.size_push ..]
  generalize henv : newEnv scope s.heap.objs.size globals (cellsFrom (s.heap.objs.size + 1) scope.names []) qual func code none builtins = env at hQ
  have e1 : env.locals = s.heap.objs.size := by rw [← henv]; rfl
  have e2 : env.cells = cellsFrom (s.heap.objs.size + 1) scope.names [] := by rw [← henv]; rfl
  have e3 : env.scope = scope := by rw [← henv]; rfl
  have hkx : env.kindOf x = some .local := by unfold Env.kindOf; rw [e3]; exact hl
  have x0 : InCallC s env.locals (fun _ => none) env.cells (fun _ => none) { s with heap := pushCells (s.heap.push { cls := .type "frame", data := .dict #[] }) scope.names } := by
    refine ⟨⟨⟨_, _, rfl⟩, ?_, fun b o e => pushCells_keeps _ _ b o (Heap.get?_push_of_some _ e), by rw [e1]; exact Nat.le_refl _⟩, fun n c hc => ?_, ?_, fun n c hm => ?_⟩
    · rw [e1]; exact (Heap.Ns.new s.heap (.type "frame")).keeps (pushCells_keeps _ _)
    · rw [e2] at hc; exact (ok.empty n c (mem_of_lookup hc)).1
    · rw [e2]; exact ok.apart
    · rw [e2] at hm; rw [e1]; exact (ok.empty n c hm).2
  refine wpAny_bind ?_
  rw [List.forIn_cons]
  show wpAny M A ((do storeName (newEnv scope s.heap.objs.size globals (cellsFrom (s.heap.objs.size + 1) scope.names []) qual func code none builtins) x v; pure (ForInStep.yield PUnit.unit)) >>= _) _ _ _
  rw [henv]
  refine wpAny_bind (wpAny_bind (wpAny_storeName_local hkx x0.toInCall.ns (fun h' hn' hs' => wpAny_pure ?_) (by rw [e3, hk]; rfl)))
  refine wpAny_pure (wpAny_pure ?_)
  show Q (newEnv scope s.heap.objs.size globals (cellsFrom (s.heap.objs.size + 1) scope.names []) qual func code none builtins) _
  rw [henv]
  have hLc : ∀ n c, env.cells.lookup n = some c → c ≠ env.locals := fun n c hc q => by
    have := x0.above n c (mem_of_lookup hc)
    rw [q] at this; exact Nat.lt_irrefl _ this
  refine hQ env rfl _ ⟨⟨⟨_, _, rfl⟩, ?_, fun b o e => hs'.extBut b o (fun q => ?_) (x0.toInCall.keep b o e), x0.toInCall.fresh⟩, fun n c hc => ?_, x0.apart, x0.above⟩ (Nat.le_add_left 1 _)
  · have : bindL env.kindOf [(x, v)] (fun _ => none) = fun y => if y = x then some v else none := by
      unfold bindL bindL; rw [if_pos hkx]
    rw [this]; exact hn'
  · have := Heap.lt_size e
    have h2 := x0.toInCall.fresh
    rw [q] at this; exact absurd this (Nat.not_lt.mpr h2)
  · have : bindC env.kindOf [(x, v)] (fun _ => none) = fun _ => none := by
      unfold bindC bindC; rw [if_pos hkx]
    rw [this]
    obtain ⟨o, z1, z2⟩ := x0.cell n c hc
    exact ⟨o, hs'.extBut c o (hLc n c hc) z1, z2⟩

theorem fn_call {name : Str} {params : Arguments} {body : List Stmt} {scope : Scope} {ps nm : List Str} {f : G → Option O} (k : Nat) (ok : c.Ok) {a : Addr} {o : Obj} {pm code doc : Value}
    (g2 : c.base.get? a = some o) (g3 : o.data = .func (docDef name params body scope pm code doc)) (g4 : c.base.CodeRec code name)
    (hB : DenSs c hm n scope nm body f)
    (hbind : ∀ pm code doc (vals : List Value), vals.length = ps.length → bindArgs (docDef name params body scope pm code doc) ⟨vals, []⟩ = pure (ps.zip vals))
    (hok : defOk scope ps nm = true) {A : Around} {l : List Env} {Lc : Addr} {s : Shared} {vs : List Value} {ds : List D} {fp : List Addr} {r : R (D × Nat)} {Q : Value → Shared → Prop} {E : Value → Shared → Prop}
    (hR : Room c hm (n + 1) A l s.heap) (hgd : c.base.StaysIn s.heap) (htk0 : 1 ≤ s.toks ∨ ∃ x, ps = [x] ∧ scope.names.lookup x = some .local) (hrs : Rps c.mg s.heap vs ds fp) (hf : fnF ps.length k f ds = some r)
    (hQ : ∀ v d lv fp' s', r = .ok (d, lv) → St c Lc s s' → Rp c.mg s'.heap v d fp' → (∀ a ∈ fp', s.heap.get? a = none ∨ a ∈ fp) → Lv s.heap s'.heap lv fp' → Q v s')
    (hE : ∀ x k s', r = .exc k → Fly c Lc l s x k s' → E x s') : wpAny (model c.prog c.w) A (call (.ref a) vs) Q E s := by
  unfold fnF at hf
  split at hf
  · rename_i hlen
    have hvl : vs.length = ps.length := hrs.length.trans hlen
    simp only [defOk, Bool.and_eq_true, decide_eq_true_eq, List.all_eq_true, beq_iff_eq] at hok
    obtain ⟨⟨⟨⟨⟨k1, k2⟩, k3⟩, k4⟩, k5⟩, k6⟩ := hok
    obtain ⟨rest, hpre⟩ := List.isPrefixOf_iff_prefix.mp k1
    have hpn : ps.Nodup := by rw [← hpre] at k2; exact (List.nodup_append.mp k2).1
    have hzip : ((ps.zip vs).map (·.1)) = ps := by rw [List.map_fst_zip]; rw [hvl]; exact Nat.le_refl _
    have hget : ∀ {x : Str} {v : Value}, (x, v) ∈ ps.zip vs → x ∈ ps := fun {x v} h => (List.of_mem_zip h).1
    have hcell : ∀ x L', scope.names.lookup x = some .cell → ((cellsFrom L' scope.names []).lookup x).isSome = true := fun x L' e => cellsFrom_there _ _ _ (.inl e)
    refine wpAny_call (codeAny_call_function (by have := hR.depth; show A.depth < 1000; omega) (hgd a o g2) g3 k5 k6 rfl ?_ ?_)
    · obtain ⟨c', o', vs', t, q1, q2, q3⟩ := g4
      exact ⟨c', o', vs', t, q1, hgd _ _ q2, q3⟩
    rw [hbind _ _ _ vs hvl]
    refine wpAny_pure ?_
    suffices hfin : ∀ env, env = newEnv scope s.heap.objs.size mainGlobals (cellsFrom (s.heap.objs.size + 1) scope.names []) (name ++ ".<locals>.") (some a) code none builtinsNs →
        ∀ s', InCallC s env.locals (bindL env.kindOf (ps.zip vs) fun _ => none) env.cells (bindC env.kindOf (ps.zip vs) fun _ => none) s' → 1 ≤ s'.toks → s'.heap.NoLimit ∧
          codeAny (model c.prog c.w) A (.func body env) (fun r s' => match r with | .ok (.ret v) => Q v s' | .ok _ => False | .error e => E e s') s' by
      rcases htk0 with ht | ⟨x, rfl, hx⟩
      · refine wpAny_with_toks ht (wpAny_newFunctionEnv_cells k4 (fun p hp => ?_) hfin)
        have := (k3 p.1 (hget hp)).1
        unfold stK at this
        simp only [Bool.or_eq_true, decide_eq_true_eq] at this
        exact this.imp id fun e => ⟨e, hcell p.1 _ e⟩
      · obtain ⟨v, rfl⟩ := List.length_eq_one_iff.mp hvl
        exact newEnv1 k4 hx hfin
    intro env henv s₁ hin htk
    refine ⟨ok.nl.keeps fun b o e => hin.toInCall.keep b o (hgd b o e), codeAny_func ?_⟩
    -- the body
    have esc : env.scope = scope := by rw [henv]; rfl
    have eloc : env.locals = s.heap.objs.size := by rw [henv]; rfl
    have ecel : env.cells = cellsFrom (s.heap.objs.size + 1) scope.names [] := by rw [henv]; rfl
    have efr : env.frame = some env.locals := by rw [henv]; rfl
    have egl : env.globals = mainGlobals := by rw [henv]; rfl
    have ebl : env.builtins = builtinsNs := by rw [henv]; rfl
    obtain ⟨⟨hsame, hn₁, hkeep, hfresh⟩, hcl, hap, hab⟩ := hin
    have hLn : s.heap.get? env.locals = none := Heap.get?_none_of_le (by rw [eloc]; exact Nat.le_refl _)
    have hbase : ∀ b, s.heap.get? b = none → c.base.get? b = none := fun b hb => by
      cases q : c.base.get? b with
      | none => rfl
      | some o => have := hgd b o q; rw [hb] at this; exact nos this
    obtain ⟨vf, hv1, hv2⟩ := Rps.each (hrs.keep fun b o e _ => hkeep b o e)
    have hcn : ∀ x b, env.cells.lookup x = some b → s.heap.get? b = none := fun x b e => by
      have := hab x b (mem_of_lookupA e)
      refine Heap.get?_none_of_le ?_
      rw [eloc] at this; exact Nat.le_of_lt this
    have hnmi : ∀ (i : Nat) (d : D), ds[i]? = some d → ∃ x, nm[i]? = some x ∧ ps[i]? = some x := fun i d e => by
      have hi : i < ps.length := by rw [← hlen]; exact (List.getElem?_eq_some_iff.mp e).1
      refine ⟨ps[i], ?_, by simp [hi]⟩
      rw [← hpre, List.getElem?_append_left hi]
      simp [hi]
    have hBd : ∀ (i : Nat) (d : D) (x : Str), ds[i]? = some d → ps[i]? = some x → Bd env s₁.heap x (vf i).1 := fun i d x e ex => by
      have hmem : (x, (vf i).1) ∈ ps.zip vs := by
        obtain ⟨h1, _⟩ := hv1 i d e
        exact List.mem_of_getElem? (i := i) (by rw [List.getElem?_zip_eq_some]; exact ⟨ex, h1⟩)
      have hkx := k3 x (List.mem_of_getElem? ex)
      unfold okNm at hkx
      simp only [Bool.and_eq_true, bne_iff_ne, ne_eq] at hkx
      refine ⟨by simpa using hkx.2.1, by simpa using hkx.2.2, ?_⟩
      have hst := hkx.1
      unfold stK at hst
      simp only [Bool.or_eq_true, decide_eq_true_eq] at hst
      rcases hst with hst | hst
      · have hk : env.kindOf x = some .local := by unfold Env.kindOf; rw [esc]; exact hst
        exact .inl ⟨hk, _, hn₁, bindL_get _ hk _ _ (by rw [hzip]; exact hpn) hmem⟩
      · have hk : env.kindOf x = some .cell := by unfold Env.kindOf; rw [esc]; exact hst
        obtain ⟨cl, hcl'⟩ := Option.isSome_iff_exists.mp (hcell x (s.heap.objs.size + 1) hst)
        rw [← ecel] at hcl'
        have := hcl x cl hcl'
        rw [bindC_get env.kindOf (by rw [hk]; decide) _ _ (by rw [hzip]; exact hpn) hmem] at this
        exact .inr ⟨.inl hk, cl, hcl', this⟩
    have hgd₁ : Gd c s₁ := by
      exact ⟨fun b o e => hkeep b o (hgd b o e), htk⟩
    have iv : Iv c s.heap fp env nm (argG k ds) vf s₁ := by
      refine ⟨⟨hgd₁, ⟨_, hn₁⟩, hbase _ hLn, by rw [esc]; exact k4, egl, ebl, fun x e => ?_, fun i d lv e => ?_⟩, KpP.of_but fun b o _ e => hkeep b o e, hLn, fun x b e => ⟨hcn x b e, _, hcl x b e⟩, fun x y b e1 e2 => apart_lookup hap e1 e2, k2, fun i b hb => ?_, fun i b hb => .inr (hv2 i b hb), fun i d lv e q b t r => ?_, fun i d lv e q => ?_, hgd⟩
      · rw [esc] at e
        rw [ecel]
        exact Option.isSome_iff_exists.mp (hcell x _ e)
      · obtain ⟨e1, _⟩ := argG_get e
        obtain ⟨x, z1, z2⟩ := hnmi i d e1
        exact ⟨x, z1, hBd i d x e1 z2, (hv1 i d e1).2⟩
      · exact (hrs.keep fun b o e _ => hkeep b o e).fp_list b (hv2 i b hb)
      · obtain ⟨e1, rfl⟩ := argG_get e
        unfold itemLv at q
        split at q
        · rename_i hfl; rw [(hv1 i d e1).2.flat_fp hfl] at r; cases r
        · omega
      · obtain ⟨e1, rfl⟩ := argG_get e
        unfold itemLv at q
        split at q
        · rename_i hfl; rw [(hv1 i d e1).2.flat_fp hfl]; exact ⟨fun _ h => (nomatch h), .nil⟩
        · omega
    have hR₁ : Room c hm n (A.deeper env) (env :: l) s₁.heap := by
      refine ⟨by show A.frames.map _ = _; rw [hR.fr]; rfl, fun e he => ?_, by have := hR.depth; show A.depth + 1 + n ≤ 900; omega, by have := hR.units; show A.units + 3 + 10 * n ≤ 9000; omega, ?_⟩
      · rcases List.mem_cons.mp he with rfl | he
        · obtain ⟨o', es, ep, z1, z2, _⟩ := hn₁
          exact ⟨by rw [esc, k4]; decide, _, o', es, ep, efr, hbase _ hLn, z1, z2⟩
        · obtain ⟨h1, L', o', es, n', h2, h3, h4, h5⟩ := hR.ok e he
          exact ⟨h1, L', o', es, n', h2, h3, hkeep _ _ h4, h5⟩
      · have := hR.hm
        cases hm with
        | false => exact this
        | true =>
          obtain ⟨y, o', vs', h1, h2, h3, h4⟩ := this
          exact ⟨y, o', vs', h1, hkeep _ _ h2, h3, h4⟩
    cases hfo : f (argG k ds) with
    | none => rw [hfo] at hf; exact nos hf
    | some ro =>
      rw [hfo] at hf
      have sameT : ∀ {s' : Shared}, (∃ h tk, s' = { s₁ with heap := h, toks := tk }) → ∃ h tk, s' = { s with heap := h, toks := tk } := fun {s'} q => by
        obtain ⟨h, tk, e⟩ := hsame
        obtain ⟨h', tk', e'⟩ := q
        exact ⟨h', tk', by rw [e', e]⟩
      refine hB (A.deeper env) (env :: l) env s.heap fp _ vf s₁ ro _ _ ⟨esc, rfl, efr⟩ hR₁ iv hfo (fun w s' p => ?_) (fun x s' p => ?_)
      · cases ro with
        | next Γ' =>
          obtain rfl := Option.some.inj hf
          cases w <;> first | exact p.elim | skip
          obtain ⟨vf', p⟩ := p
          exact hQ _ _ _ _ _ rfl ⟨sameT p.same, kp_in p.iv.kb, p.iv.rd.bs⟩ .none (fun _ h => nomatch h) (Lv.nil _ _)
        | brk Γ' => exact nos hf
        | cont Γ' => exact nos hf
        | ret d lv =>
          obtain rfl := Option.some.inj hf
          cases w <;> first | exact p.elim | skip
          obtain ⟨q1, q2, q3, q4, _, fp', q5, q6, q7⟩ := p
          exact hQ _ _ _ _ _ rfl ⟨sameT q1, kp_in q3, q4⟩ q5 q6 q7
        | exc k' Γ' => exact p.elim
        | raise k' => exact p.elim
      · cases ro with
        | next Γ' => exact p.elim
        | brk Γ' => exact p.elim
        | cont Γ' => exact p.elim
        | ret d lv => exact p.elim
        | exc k' Γ' =>
          obtain rfl := Option.some.inj hf
          obtain ⟨vf', s₂, sp, a', C, t, bs, rfl, q2, q3, q4, q5, q6, q7, q8⟩ := p
          have hkb : KpP (fun _ => False) s.heap s₂.heap := sp.iv.kb
          refine leaves_on0 hR₁.fr efr q7 q8 fun h' hfl hc' hu => ?_
          refine hE _ k' _ rfl ⟨a', C, t, bs, rfl, q2, ⟨?_, ?_, ⟨fun b o e => hfl.1 b o (q4 b o e), q3.bs.2⟩⟩, q4, fun b o e nd => q5 b o ((hkb b o id e).1 nd) nd, hkb.gone q6, hfl, hc'⟩
          · obtain ⟨h, tk, e⟩ := sameT sp.same
            obtain ⟨h'', tk'', e''⟩ := q3.same
            exact ⟨h', s'.toks, by rw [e'', e]⟩
          · refine kp_out hkb q5 hfl.1 fun b o e hnf => ?_
            obtain ⟨_, sl, e1⟩ := hkb b o id e
            have hbl : b ≠ env.locals := fun q => by rw [q, hLn] at e; exact nos e
            obtain ⟨sl', e2⟩ := q3.kp.dct b _ hbl e1
            obtain ⟨sl'', e3⟩ := hu b _ e2 hnf
            exact ⟨sl'', e3⟩
        | raise k' =>
          obtain rfl := Option.some.inj hf
          obtain ⟨p1, p2, h, e, C, args, rfl, p3, p4, p5, p6, p7⟩ := p
          have hth : ∀ b o, c.base.get? b = some o → (thin c.base h).get? b = some o := fun b o q => thin_keep (p6 b o q) (.inr ⟨o, q⟩)
          have hff : h.FunFrames (thin c.base h) (env :: l) := by
            have : ∀ l' : List Env, (∀ e ∈ l', e ∈ env :: l) → h.FunFrames (thin c.base h) l' := by
              intro l'
              induction l' with
              | nil => intro _; exact trivial
              | cons e' r ih =>
                intro hl'
                obtain ⟨z1, L', o', es, n', z2, z3, z4, z5⟩ := p7 e' (hl' e' (List.mem_cons_self ..))
                exact ⟨z1, ⟨L', o', z2, thin_none z4 z5 z3, z4, fun vs q => by rw [z5] at q; cases q⟩, ih fun e he => hl' e (List.mem_cons_of_mem _ he)⟩
            exact this _ fun _ h => h
          refine leaves_made0 hR₁.fr efr thin_stays hff p4 fun h' t hfl hc' hu => ?_
          refine hE _ k' _ rfl ⟨e, C, .ref t, thin c.base h, rfl, p3, ⟨?_, ?_, ⟨fun b o q => hfl.1 b o (hth b o q), p2.2⟩⟩, hth, fun b o q nd => thin_keep ((p5 b o id q).1 nd) (.inl nd), p5.gone p4.new, hfl, hc'⟩
          · obtain ⟨h'', tk'', e''⟩ := sameT p1
            exact ⟨h', s'.toks, by rw [e'']⟩
          · refine kp_out p5 (fun b o q nd => thin_keep q (.inl nd)) hfl.1 fun b o q hnf => ?_
            obtain ⟨_, sl, e1⟩ := p5 b o id q
            obtain ⟨sl', e2⟩ := hu b _ (p4.keeps b _ e1) hnf
            exact ⟨sl', e2⟩
  · exact nos hf

theorem fn_of {name : Str} {params : Arguments} {body : List Stmt} {scope : Scope} {ps nm : List Str} {f : G → Option O} (k : Nat) (ok : c.Ok)
    (hfn : ∃ a o pm code doc, c.mg name = some (.ref a) ∧ c.base.get? a = some o ∧ o.data = .func (docDef name params body scope pm code doc) ∧ c.base.CodeRec code name)
    (hB : DenSs c hm n scope nm body f)
    (hbind : ∀ pm code doc (vals : List Value), vals.length = ps.length → bindArgs (docDef name params body scope pm code doc) ⟨vals, []⟩ = pure (ps.zip vals))
    (hok : defOk scope ps nm = true := by kernel_rfl) :
    Fn c hm (n + 1) name (fnF ps.length k f) := by
  obtain ⟨a, o, pm, code, doc, g1, g2, g3, g4⟩ := hfn
  exact ⟨a, o, _, g1, g2, g3, fun A l Lc mc s vs ds fp r Q E hR hns hnb hgd hrs hf hQ hE => fn_call k ok g2 g3 g4 hB hbind hok hR hgd.1 (.inl hgd.2) hrs hf hQ hE⟩
end
end Mine
namespace Mine
open PySem PySem.Calls PyProof.Rows PySem.SeqAt

noncomputable def joinN (sep : List Nat) : List (List Nat) → List Nat
  | [] => []
  | [x] => x
  | x :: y :: r => x ++ sep ++ joinN sep (y :: r)
noncomputable def splitN (c : Nat) : List Nat → List (List Nat)
  | [] => [[]]
  | x :: xs => if x = c then [] :: splitN c xs else match splitN c xs with
    | [] => [[x]]
    | p :: ps => (x :: p) :: ps
theorem splitN_ne (c : Nat) : ∀ x, splitN c x ≠ []
  | [] => by simp [splitN]
  | x :: xs => by
    rw [splitN]
    split
    · simp
    · split <;> simp
theorem splitN_free_append (c : Nat) : ∀ (a b : List Nat), c ∉ a → splitN c (a ++ c :: b) = a :: splitN c b
  | [], b, _ => by simp [splitN]
  | x :: a, b, h => by
    have hx : x ≠ c := fun q => h (by rw [q]; exact List.mem_cons_self ..)
    rw [List.cons_append, splitN, if_neg hx, splitN_free_append c a b fun q => h (List.mem_cons_of_mem _ q)]
theorem splitN_free (c : Nat) : ∀ (a : List Nat), c ∉ a → splitN c a = [a]
  | [], _ => rfl
  | x :: a, h => by
    have hx : x ≠ c := fun q => h (by rw [q]; exact List.mem_cons_self ..)
    rw [splitN, if_neg hx, splitN_free c a fun q => h (List.mem_cons_of_mem _ q)]
theorem splitN_join (c : Nat) : ∀ (L : List (List Nat)), L ≠ [] → (∀ p ∈ L, c ∉ p) → splitN c (joinN [c] L) = L
  | [], h, _ => absurd rfl h
  | [x], _, h => splitN_free c x (h x (List.mem_cons_self ..))
  | x :: y :: r, _, h => by
    rw [joinN, List.append_assoc]
    show splitN c (x ++ c :: joinN [c] (y :: r)) = _
    rw [splitN_free_append c _ _ (h x (List.mem_cons_self ..)), splitN_join c (y :: r) (by simp) fun p hp => h p (List.mem_cons_of_mem _ hp)]

theorem mk_toList (x : Str) : Str.mk (x.cps.toList).toArray = x := by cases x; simp
theorem join_mk (sep : List Nat) : ∀ (L : List (List Nat)), Str.join (Str.mk sep.toArray) (L.map fun p => Str.mk p.toArray) = Str.mk (joinN sep L).toArray
  | [] => rfl
  | [x] => rfl
  | x :: y :: r => by
    have := join_mk sep (y :: r)
    rw [List.map_cons] at this
    rw [List.map_cons, List.map_cons, Str.join, this, app_mk, app_mk, joinN]
    simp
theorem split_ne (x y : Str) : Txt.split x y ≠ [] := by
  unfold Txt.split
  split
  · simp
  · split
    · simp
    · rw [StrLaws.partsBetween_eq]
      obtain ⟨p, r, e⟩ := StrLaws.partsFrom_ne x y.length 0 (Builtin.Str.occurrences x y 0 x.length (x.length + 1))
      rw [e]; simp
theorem split_mk (x : List Nat) (ch : Nat) : Txt.split (Str.mk x.toArray) (Str.mk [ch].toArray) = (splitN ch x).map fun p => Str.mk p.toArray := by
  have h1 := StrLaws.join_split (Str.mk x.toArray) (Str.mk [ch].toArray)
  have h2 := StrLaws.split_free (Str.mk x.toArray) ch
  have h3 := split_ne (Str.mk x.toArray) (Str.mk [ch].toArray)
  have h2' : ∀ p ∈ Txt.split (Str.mk x.toArray) (Str.mk [ch].toArray), ch ∉ p.cps.toList := h2
  generalize Txt.split (Str.mk x.toArray) (Str.mk [ch].toArray) = L at h1 h2' h3
  have hL : L = (L.map fun p => p.cps.toList).map fun p => Str.mk p.toArray := by
    rw [List.map_map]
    conv => lhs; rw [← List.map_id L]
    exact List.map_congr_left fun p _ => (mk_toList p).symm
  rw [hL, join_mk] at h1
  have h4 : joinN [ch] (L.map fun p => p.cps.toList) = x := by
    have := congrArg (fun s : Str => s.cps.toList) h1
    simpa using this
  have h5 := splitN_join ch (L.map fun p => p.cps.toList) (by simpa using h3) (by
    intro p hp
    obtain ⟨q, hq, rfl⟩ := List.mem_map.mp hp
    exact h2' q hq)
  rw [h4] at h5
  rw [h5, ← hL]

theorem joinN_map (c b : Nat) : ∀ (x : List Nat), joinN [b] (splitN c x) = x.map fun k => if k = c then b else k
  | [] => rfl
  | k :: x => by
    have ih := joinN_map c b x
    rw [splitN, List.map_cons]
    cases e : splitN c x with
    | nil => exact absurd e (splitN_ne c x)
    | cons p ps =>
      rw [e] at ih
      split
      · rw [joinN, ih]; simp
      · dsimp only
        cases ps with
        | nil => rw [joinN] at ih ⊢; rw [ih]
        | cons q qs => rw [joinN] at ih ⊢; rw [← ih]; simp
theorem replace_mk (x : List Nat) (a b : Nat) : Txt.replace (Str.mk x.toArray) (Str.mk [a].toArray) (Str.mk [b].toArray) = Str.mk (x.map fun k => if k = a then b else k).toArray := by
  have := StrLaws.replace_one (Str.mk x.toArray) (Str.mk [b].toArray) a
  rw [show (⟨#[a]⟩ : Str) = Str.mk [a].toArray from rfl] at this
  rw [this, split_mk, join_mk, joinN_map]

section
variable {c : Cx} {hm : Bool} {n : Nat} {sc : Scope} {nm : List Str}

-- len
noncomputable def lenF : List D → Option (R (D × Nat))
  | [.list xs] => if xs.length ≤ big then okI xs.length else none
  | [.str s] => if s.length ≤ big then okI s.length else none
  | [.tup xs] => if xs.length ≤ big then okI xs.length else none
  | _ => none
theorem op_len : OpN c hm n (fun vs => call (.builtin "len") vs) lenF := by
  intro A l L m s vs ds fp r Q E hR hn nb hb rs hf hQ hE
  unfold lenF at hf
  split at hf
  · rename_i xs
    obtain ⟨va, rfl, ra⟩ := rs.inv1
    split at hf
    · rename_i hlen
      obtain rfl := Option.some.inj hf
      obtain ⟨x, vx, f, hx, rx⟩ := listObj ra
      have hsz : vx.size = xs.length := by simpa using rx.length
      refine call_len_list hx (by rw [hsz]; unfold big at hlen; omega) ?_
      rw [hsz]
      exact flatQ hQ rfl (St.toks hb _ (by omega)) (.int _ _)
    · exact nos hf
  · obtain ⟨va, rfl, ra⟩ := rs.inv1
    split at hf
    · rename_i hlen
      obtain rfl := Option.some.inj hf
      obtain ⟨t0, rfl, rfl⟩ := ra.inv
      refine PySem.P.len_str (by rw [len_mk]; unfold big at hlen; omega) ?_
      rw [len_mk]
      exact flatQ hQ rfl (St.toks hb _ (by omega)) (.int _ _)
    · exact nos hf
  · obtain ⟨va, rfl, ra⟩ := rs.inv1
    split at hf
    · rename_i hlen
      obtain rfl := Option.some.inj hf
      obtain ⟨h1, h2, h3, rx⟩ := ra.inv
      ·
        have hsz := rx.length
        simp only [Array.length_toList] at hsz
        refine PyProof.Rows.len_tuple ⟨_, h1, h2, _, h3⟩ (by rw [hsz]; unfold big at hlen; omega) ?_
        rw [hsz]
        exact flatQ hQ rfl (St.toks hb _ (by omega)) (.int _ _)
    · exact nos hf
  · exact nos hf

-- texts
noncomputable def strsOf : List D → Option (List (List Nat))
  | [] => some []
  | .str s :: r => (strsOf r).map (s :: ·)
  | _ => none
theorem strsOf_vals {X : Str → Option Value} {h : Heap} {ds : List D} {vs : List Value} {fp : List Addr} {ts : List (List Nat)} (r : Rps X h vs ds fp) (e : strsOf ds = some ts) :
    ∃ l : List (Str × Tok), strValues l = vs ∧ l.map (·.1) = ts.map fun p => Str.mk p.toArray :=
  r.ind (Ps := fun vs ds _ => ∀ ts, strsOf ds = some ts → ∃ l : List (Str × Tok), strValues l = vs ∧ l.map (·.1) = ts.map fun p => Str.mk p.toArray) (fun ts e => ⟨[], rfl, by obtain rfl := Option.some.inj e; rfl⟩)
    (fun {_ _ d _ _ _} r _ ih ts e => by
      cases d with
      | str s =>
        obtain ⟨ts', e1, rfl⟩ := Option.map_eq_some_iff.mp e
        obtain ⟨t, rfl, rfl⟩ := r.inv
        obtain ⟨l, rfl, h2⟩ := ih ts' e1
        exact ⟨(_, t) :: l, rfl, by rw [List.map_cons, h2]; rfl⟩
      | _ => exact nos e) ts e
theorem strsOf_map (ts : List (List Nat)) : strsOf (ts.map .str) = some ts := by
  induction ts with
  | nil => rfl
  | cons t ts ih => rw [List.map_cons, strsOf, ih]; rfl
theorem vals_strs {X : Str → Option Value} {h : Heap} : ∀ (l : List (Str × Tok)), Rps X h (strValues l) (l.map fun p => .str p.1.cps.toList) []
  | [] => .nil
  | (x, t) :: l => by
    have r : Rp X h (.str x t) (.str x.cps.toList) [] := by have := Rp.str (X := X) (h := h) x.cps.toList t; simpa using this
    have := Rps.cons r (vals_strs (X := X) (h := h) l)
    exact this

noncomputable def totalN (sep : List Nat) (ts : List (List Nat)) : Nat := (ts.map List.length).sum + ts.length * sep.length
noncomputable def joinF : List D → Option (R (D × Nat))
  | [.str sep, .list ds] => match strsOf ds with
    | some ts => if totalN sep ts ≤ lim then some (.ok (.str (joinN sep ts), 2)) else none
    | none => none
  | _ => none
theorem op_join : OpN c hm n (fun vs => call (.builtin "str.join") vs) joinF := by
  intro A l L m s vs ds fp r Q E hR hn nb hb rs hf hQ hE
  unfold joinF at hf
  split at hf
  · rename_i sep es
    obtain ⟨va, vb, fa, fb, ra, rb⟩ := rs.inv2
    split at hf
    · rename_i ts hts
      split at hf
      · rename_i hlen
        obtain rfl := Option.some.inj hf
        obtain ⟨t0, rfl, rfl⟩ := ra.inv
        obtain ⟨x, vx, f, hx, rx⟩ := listObj rb
        obtain ⟨l, h1, h2⟩ := strsOf_vals rx hts
        have hx' : s.heap.IsList x (strValues l).toArray := by rw [h1]; simpa using hx
        refine wpAny_with_toks hb.2 (SC.join hx' h2 ?_ fun t' k hk => ?_)
        · unfold JoinOk
          rw [StrLaws.joinTotal, List.map_map]
          have e1 : (List.map ((fun x => x.length) ∘ fun p => Str.mk p.toArray) ts) = ts.map List.length := List.map_congr_left fun p _ => len_mk p
          rw [e1, List.length_map, len_mk]
          unfold totalN lim at hlen
          unfold Builtin.Str.tooLong sizeLine
          simp only [Bool.not_eq_true', decide_eq_false_iff_not]
          omega
        · have e : Txt.join (Str.mk sep.toArray) (ts.map fun p => Str.mk p.toArray) = Str.mk (joinN sep ts).toArray := by
            unfold Txt.join; rw [StrLaws.glued_eq_join, join_mk]
          rw [e]
          exact flatQ hQ rfl (St.toks hb _ hk) (.str _ _)
      · exact nos hf
    · exact nos hf
  · exact nos hf

noncomputable def splitF : List D → Option (R (D × Nat))
  | [.str x, .str [ch]] => if x.length ≤ 1000000 then some (.ok (.list ((splitN ch x).map .str), 2)) else none
  | _ => none
theorem splitN_length (ch : Nat) : ∀ x, (splitN ch x).length ≤ x.length + 1
  | [] => by simp [splitN]
  | y :: x => by
    have ih := splitN_length ch x
    rw [splitN]
    split
    · simp; omega
    · cases e : splitN ch x with
      | nil => simp
      | cons p ps => rw [e] at ih; simp at ih ⊢; omega
theorem flats_strs : ∀ (ts : List (List Nat)), D.flats (ts.map .str) = true
  | [] => rfl
  | t :: ts => by rw [List.map_cons, D.flats, flats_strs ts]; rfl
theorem op_split : OpN c hm n (fun vs => call (.builtin "str.split") vs) splitF := by
  intro A l L m s vs ds fp r Q E hR hn nb hb rs hf hQ hE
  unfold splitF at hf
  split at hf
  · rename_i x ch
    obtain ⟨va, vb, fa, fb, ra, rb⟩ := rs.inv2
    split at hf
    · rename_i hlen
      obtain rfl := Option.some.inj hf
      obtain ⟨t0, rfl, rfl⟩ := ra.inv
      obtain ⟨u0, rfl, rfl⟩ := rb.inv
      refine wpAny_with_toks hb.2 (PyProof.Rows.splitN1 (x := Str.mk x.toArray) (y := Str.mk [ch].toArray) (trickF hn) trickN (by rfl) (fun l h' k hl F N hk => ?_) ?_)
      · have st := trickSt (c := c) (extra := [_]) hn nb hb F N hk
        have hnew := (N _ (List.mem_cons_self ..)).1
        rw [split_mk] at hl
        have hr : Rps c.mg h' (strValues l) ((splitN ch x).map .str) [] := by
          have := vals_strs (X := c.mg) (h := h') l
          have e : (l.map fun p => D.str p.1.cps.toList) = (splitN ch x).map .str := by
            have := congrArg (List.map fun s : Str => D.str s.cps.toList) hl
            rw [List.map_map, List.map_map] at this
            simpa [Function.comp_def] using this
          rw [← e]; exact this
        refine hQ _ _ _ _ _ rfl st (.list hnew rfl rfl (by simpa using hr)) ?_ (Lv.one (fresh_size _) ⟨_, _, _, hnew, rfl, rfl⟩)
        intro q hq
        rcases List.mem_cons.mp hq with rfl | hq
        · exact .inl (fresh_size _)
        · cases hq
      · rw [len_mk]; unfold sizeLine; omega
    · exact nos hf
  · exact nos hf

-- a method of a text
noncomputable def methF (F : List D → Option (R (D × Nat))) (a : D) (g : Option (R (List D))) : Option (R (D × Nat)) := match a with
  | .str x => bindR g fun ds => F (.str x :: ds)
  | _ => none
set_option maxRecDepth 20000 in
theorem den_meth {o : Expr} {name : Str} {id : String} {F : List D → Option (R (D × Nat))} {apos pos : Pos} {e : Expr} {rest : List Expr} {o1 o2 : List Nat} {f : G → Option (R (D × Nat))} {g : G → Option (R (List D))}
    (hget : ∀ (A : Around) (E : Value → Shared → Prop) (s : Shared) (x : Str) (t : Tok) (pl : Sem Bool) (Q : Value × List Value → Shared → Prop), Q (.builtin id, [.str x t]) s → wpAny (model c.prog c.w) A (getMethod (.str x t) name pl) Q E s)
    (ho : OpN c hm n (fun vs => call (.builtin id) vs) F) (h1 : Den c hm n sc nm o o1 f) (h2 : DenA c hm n sc nm (e :: rest) o2 g) (hs : NotStar e := by intro _ _; rfl) (hp : NoStars rest := by intro _ _; rfl) (hmf : MethForm o name apos (e :: rest) pos := by intro _; rfl) :
    Den c hm n sc nm (.Call (.Attribute o name apos) (e :: rest) [] pos) (o1 ++ o2) (fun Γ => bindR (f Γ) fun a => methF F a.1 (g Γ)) := by
  intro A l env Γ vf s r Q E hsc hR hRd hf hQ hE
  obtain ⟨m, hn⟩ := hRd.ns
  refine MethodCall_ (h1.run hsc hR hRd hf (fun a la _ hf va fa s₁ st₁ ra ta lva hR₁ hRd₁ => ?_) hE) (hmf env)
  unfold methF at hf
  dsimp only at hf
  cases a with
  | str x =>
    dsimp only at hf
    obtain ⟨m₁, hn₁⟩ := hRd₁.ns
    obtain ⟨t0, rfl, rfl⟩ := ra.inv
    refine hget A E s₁ _ _ _ _ ?_
    dsimp only
    refine PyProof.Rows.callWith_method1 ?_ (hs _ _) (hp _ _)
    refine h2.run hsc hR₁ hRd₁ hf (fun ds _ hf vs fs s₂ st₂ rs ts hR₂ hRd₂ => ?_) (fun x k s' e fl => hE x k s' e (fl.back st₁ hn))
    obtain ⟨m₂, hn₂⟩ := hRd₂.ns
    have st := st₁.trans st₂
    refine ho A l env.locals m₂ s₂ _ (.str x :: ds) ([] ++ fs) r Q E hR₂ hn₂ hRd₂.nb hRd₂.bs (.cons (.str x _) rs) hf (fun v d lv fp s₃ e st₃ rp tr lvl => ?_) (fun x k s' e fl => hE x k s' e (fl.back st hn))
    refine hQ v d lv fp s₃ e (st.trans st₃) rp (fun y hy => ?_) (lvl.back fun y hy => st.kp.gone hn hy)
    rcases tr y hy with h | h
    · exact .inl (st.kp.gone hn h)
    · exact (ts.back fun y hy => st₁.kp.gone hn hy).right y (by simpa using h)
  | _ => exact nos hf
set_option maxRecDepth 20000 in
theorem den_join {o e : Expr} {apos pos : Pos} {o1 o2 : List Nat} {f : G → Option (R (D × Nat))} {g : G → Option (R (List D))} (h1 : Den c hm n sc nm o o1 f) (h2 : DenA c hm n sc nm [e] o2 g) (hs : NotStar e := by intro _ _; rfl)
    (hmf : MethForm o "join" apos [e] pos := by intro _; rfl) :
    Den c hm n sc nm (.Call (.Attribute o "join" apos) [e] [] pos) (o1 ++ o2) (fun Γ => bindR (f Γ) fun a => methF joinF a.1 (g Γ)) := den_meth (fun _ _ _ _ _ _ _ h => GM.join h) op_join h1 h2 hs (by intro _ _; rfl) hmf
end
end Mine
namespace Mine
open PySem PySem.Calls PyProof.Rows PySem.SeqAt

section
variable {c : Cx} {hm : Bool} {n : Nat} {sc : Scope} {nm : List Str}

set_option maxRecDepth 20000 in
theorem den_split {o e : Expr} {apos pos : Pos} {o1 o2 : List Nat} {f : G → Option (R (D × Nat))} {g : G → Option (R (List D))} (h1 : Den c hm n sc nm o o1 f) (h2 : DenA c hm n sc nm [e] o2 g) (hs : NotStar e := by intro _ _; rfl)
    (hmf : MethForm o "split" apos [e] pos := by intro _; rfl) :
    Den c hm n sc nm (.Call (.Attribute o "split" apos) [e] [] pos) (o1 ++ o2) (fun Γ => bindR (f Γ) fun a => methF splitF a.1 (g Γ)) := den_meth (fun _ _ _ _ _ _ _ h => GM.split h) op_split h1 h2 hs (by intro _ _; rfl) hmf

noncomputable def replF (a b : Nat) : D × Nat → Option (R (D × Nat))
  | (.str x, _) => if x.length ≤ 1000000 then some (.ok (.str (x.map fun k => if k = a then b else k), 2)) else none
  | _ => none
set_option maxRecDepth 20000 in
theorem den_repl {o : Expr} {y z : Str} {k1 k2 : Nat} {p1 p2 apos pos : Pos} {o1 : List Nat} {f : G → Option (R (D × Nat))} (a b : Nat) (h1 : Den c hm n sc nm o o1 f) (hy : y = Str.mk [a].toArray := by rfl) (hz : z = Str.mk [b].toArray := by rfl) (hab : a ≠ b := by decide)
    (hmf : MethForm o "replace" apos [.Constant (.str y) k1 p1, .Constant (.str z) k2 p2] pos := by intro _; rfl) :
    Den c hm n sc nm (.Call (.Attribute o "replace" apos) [.Constant (.str y) k1 p1, .Constant (.str z) k2 p2] [] pos) [] (fun Γ => bindR (f Γ) (replF a b)) := by
  intro A l env Γ vf s r Q E hsc hR hRd hf hQ hE
  obtain ⟨m, hn⟩ := hRd.ns
  refine MethodCall_ (h1.run hsc hR hRd hf (fun d la _ hf va fa s₁ st₁ ra ta lva hR₁ hRd₁ => ?_) hE) (hmf env)
  unfold replF at hf
  split at hf
  · rename_i x _ heq
    cases heq
    split at hf
    · rename_i hlen
      obtain rfl := Option.some.inj hf
      obtain ⟨t0, rfl, rfl⟩ := ra.inv
      refine GM.replace ?_
      refine PyProof.Rows.callWith_method1 ?_
      refine args_cons ?_
      refine Constant_str ?_
      refine args_cons ?_
      refine Constant_str ?_
      refine args_nil ?_
      have ht := hRd₁.bs.2
      rw [hy, hz]
      refine wpAny_with_toks (n := 1) (show 1 ≤ s₁.toks + 1 + 1 by omega) (SC.replace (x := Str.mk x.toArray) (u := s₁.toks) (v := s₁.toks + 1) ?_ ?_ ?_ ?_ ?_ fun t' k hk => ?_)
      · show s₁.toks ≠ 0; omega
      · show s₁.toks + 1 ≠ 0; omega
      · show s₁.toks ≠ s₁.toks + 1; omega
      · rw [str_beq]; simpa using hab
      · rw [len_mk, len_mk]; simp only [List.length_cons, List.length_nil]; omega
      · rw [replace_mk]
        exact hQ _ _ _ _ _ rfl (st₁.trans (St.toks hRd₁.bs _ hk)) (.str _ _) Tr.nil (Lv.nil _ _)
    · exact nos hf
  · exact nos hf
end
end Mine
namespace Mine
open PySem PySem.Calls PyProof.Rows PySem.SeqAt

section
variable {c : Cx} {hm : Bool} {n : Nat} {sc : Scope} {nm : List Str}

noncomputable def isiF (T : String) : D × Nat → Option (R (D × Nat))
  | (.list _, _) => if T = "list" then okB true else none
  | (.str _, _) => if T = "str" then okB true else none
  | (.int _, _) => if T = "int" then okB true else if T = "bool" then okB false else none
  | _ => none

theorem den_isi {e : Expr} {x : Str} {T : String} {np tp pos : Pos} {o1 : List Nat} {f : G → Option (R (D × Nat))} (ok : c.Ok) (hg : Glb c "isinstance" (.builtin "isinstance")) (hgT : Glb c x (.type T)) (h1 : Den c hm n sc nm e o1 f)
    (hk : sc.names.lookup ("isinstance" : Str) = some .globalImplicit := by kernel_rfl) (hk2 : sc.names.lookup x = some .globalImplicit := by kernel_rfl) (hd : (x == ("__debug__" : Str)) = false := by kernel_rfl) (hs : NotStar e := by intro _ _; rfl) :
    Den c hm n sc nm (.Call (.Name "isinstance" np) [e, .Name x tp] [] pos) [] (fun Γ => bindR (f Γ) (isiF T)) := by
  intro A l env Γ vf s r Q E hsc hR hRd hf hQ hE
  obtain ⟨m, hn⟩ := hRd.ns
  refine Call_ (load_glb ok hRd hsc hk (by rfl) hg ?_) (by rfl)
  refine PyProof.Rows.callWith_builtin1 ?_ (hs _ _)
  refine args_cons (h1.run hsc hR hRd hf (fun d la _ hg2 va fa s₁ st₁ ra ta lva hR₁ hRd₁ => ?_) hE) (hs _ _)
  refine args_cons (load_glb ok hRd₁ hsc hk2 hd hgT (args_nil ?_))
  have fin : ∀ b tk, r = .ok (.bool b, 2) → 1 ≤ tk → Q (.bool b) { s₁ with toks := tk } := fun b tk e htk => hQ _ _ _ _ _ e (st₁.trans (St.toks hRd₁.bs _ htk)) (.bool _) Tr.nil (Lv.nil _ _)
  have ht := hRd₁.bs.2
  unfold isiF at hg2
  split at hg2
  · rename_i heq
    cases heq
    split at hg2
    · rename_i hT
      subst hT
      obtain rfl := Option.some.inj hg2
      obtain ⟨x, vx, f, ⟨o, hx, hc, _⟩, rx⟩ := listObj ra
      exact IsiPair.list_list hx hc (fin true s₁.toks rfl ht)
    · exact nos hg2
  · rename_i heq
    cases heq
    split at hg2
    · rename_i hT
      subst hT
      obtain rfl := Option.some.inj hg2
      obtain ⟨t0, rfl, rfl⟩ := ra.inv
      exact IsiPair.str_str (fin true s₁.toks rfl ht)
    · exact nos hg2
  · rename_i heq
    cases heq
    split at hg2
    · rename_i hT
      subst hT
      obtain rfl := Option.some.inj hg2
      obtain ⟨t0, rfl, rfl⟩ := ra.inv
      exact IsiPair.int_int (fin true s₁.toks rfl ht)
    · split at hg2
      · rename_i hT
        subst hT
        obtain rfl := Option.some.inj hg2
        obtain ⟨t0, rfl, rfl⟩ := ra.inv
        exact IsiPair.int_bool (fin false (s₁.toks + 1) rfl (by omega))
      · exact nos hg2
  · exact nos hg2
end
end Mine
namespace Mine
open PySem PySem.Calls PyProof.Rows PySem.SeqAt PySem.W

noncomputable def cxOf (prog : Program) (w : World) (s : Shared) (mg mb : Str → Option Value) : Cx := ⟨prog, w, s.heap, mg, mb⟩
theorem cx_ok {p : Program} {loose : List Str} {mean : ExcName → Option Value} {mg mb : Str → Option Value} {s : Shared} {prog : Program} {w : World} (T : Top p loose mean mg mb s.heap) : (cxOf prog w s mg mb).Ok := ⟨T.g, T.b, T.nolimit⟩

theorem ints_rps {X : Str → Option Value} {h : Heap} : ∀ {vs : List Value} {ns : List Int}, IntsAre vs ns → Rps X h vs (ns.map .int) []
  | [], _, hI => by cases hI; exact .nil
  | _ :: _, _, hI => by
    cases hI with
    | cons n t h => exact .cons (.int _ _) (ints_rps h)

theorem law_good (l : OpenLaw) {cl : Str → Option Addr} {mean : ExcName → Option Value} {args : List WData} {s₁ s' : Shared} (hk : s₁.heap.StaysIn s'.heap) (hs : ∃ h tk, s' = { s₁ with heap := h, toks := tk }) (hg : s₁.gens = #[]) (hp : l.row.claim.post args (.bool true) args = true) :
    GoodWG l.row.claim cl mean args s₁ (.ok (.ret (.bool true))) s' := by
  obtain ⟨h, tk, e⟩ := hs
  refine ⟨.inl ⟨.bool true, .bool true, [], rfl, fun cls => ?_, .bool true, ?_, fun _ => ⟨.nil, fun a ha => by cases ha⟩⟩, ?_, by rw [e], ?_⟩
  · rfl
  · exact hp
  · exact OldK.of_keep hk
  · rw [e, hg]; intro y hy; simp at hy

theorem law_close (l : OpenLaw) {w : World} {s₁ : Shared} {mg mb : Str → Option Value} {cl : Str → Option Addr} {mean : ExcName → Option Value} {args : List WData} {fa x : Addr} {vs : List Value} {ns : List Int} {n k : Nat} {f : G → Option O}
    {name : Str} {params : Arguments} {body : List Stmt} {scope : Scope} {p : Str} {nm : List Str} (ok : (cxOf l.row.prog w s₁ mg mb).Ok) (hg : s₁.gens = #[]) (hp : l.row.claim.post args (.bool true) args = true)
    (hfn : ∃ a o pm code doc, mg name = some (.ref a) ∧ s₁.heap.get? a = some o ∧ o.data = .func (docDef name params body scope pm code doc) ∧ s₁.heap.CodeRec code name) (hmg : mg name = some (.ref fa))
    (hL : s₁.heap.IsList x vs.toArray) (hI : IntsAre vs ns) (hn : n ≤ 500)
    (hB : DenSs (cxOf l.row.prog w s₁ mg mb) false n scope nm body f)
    (hbind : ∀ pm code doc (vals : List Value), vals.length = [p].length → bindArgs (docDef name params body scope pm code doc) ⟨vals, []⟩ = pure ([p].zip vals))
    (hok : defOk scope [p] nm = true) (hpl : scope.names.lookup p = some .local) (hf : ∃ lv, fnF 1 k f [.list (ns.map .int)] = some (.ok (.bool true, lv))) :
    wpAny (model l.row.prog w) callerA (call (.ref fa) [.ref x]) (fun v s' => GoodWG l.row.claim cl mean args s₁ (.ok (.ret v)) s') (fun e s' => GoodWG l.row.claim cl mean args s₁ (.error e) s') s₁ := by
  obtain ⟨a, o, pm, code, doc, g1, g2, g3, g4⟩ := hfn
  rw [hmg] at g1; cases g1
  obtain ⟨lv, hf⟩ := hf
  obtain ⟨o', z1, z2, z3, z4⟩ := hL
  have hrs : Rps mg s₁.heap [.ref x] [.list (ns.map .int)] [x] := Rps.one (.list z1 z2 z4 (by simpa using ints_rps hI))
  refine fn_call (c := cxOf l.row.prog w s₁ mg mb) (hm := false) (n := n) (Lc := 0) k ok g2 g3 g4 hB hbind hok (l := []) ⟨rfl, (fun e he => by cases he), by show 301 + (n + 1) ≤ 900; omega, by show 4 + 10 * (n + 1) ≤ 9000; omega, rfl⟩ (fun b o e => e) (.inr ⟨p, rfl, hpl⟩) hrs hf (fun v d lv' fp' s' e st rp _ _ => ?_) (fun x k s' e => by cases e)
  cases e
  obtain ⟨rfl, rfl⟩ := rp.inv
  exact law_good l st.bs.1 st.same hg hp
end Mine
namespace Mine
open PySem PySem.Calls PyProof.Rows PySem.SeqAt PySem.W

noncomputable def stFn : Option Stmt → DefRec
  | some (.FunctionDef name a b _ _ _ sc _ _ pos) => ⟨name, a, b, sc, pos⟩
  | _ => ⟨Str.empty, ⟨[], [], none, [], [], none, []⟩, [], { kind := .function, names := [], isGenerator := false, isCoroutine := false }, ⟨0, 0, 0, 0⟩⟩
noncomputable def recAt (p : Program) (i : Nat) : DefRec := stFn p.main.body[i]?
noncomputable def FnRec (c : Cx) (d : DefRec) : Prop := ∃ a o pm code doc, c.mg d.name = some (.ref a) ∧ c.base.get? a = some o ∧ o.data = .func (docDef d.name d.params d.body d.scope pm code doc) ∧ c.base.CodeRec code d.name

theorem OpN.mono {c : Cx} {hm : Bool} {n n' : Nat} {op : List Value → Sem Value} {F : List D → Option (R (D × Nat))} (h : OpN c hm n op F) (hn : n ≤ n') : OpN c hm n' op F :=
  fun A l L m s vs ds fp r Q E hR => h A l L m s vs ds fp r Q E (hR.mono hn)
theorem Fn.mono {c : Cx} {hm : Bool} {n : Nat} {f : Str} {F : List D → Option (R (D × Nat))} (h : Fn c hm n f F) {n' : Nat} (hn : n ≤ n' := by decide) : Fn c hm n' f F := by
  obtain ⟨a, o, fd, h1, h2, h3, h4⟩ := h
  exact ⟨a, o, fd, h1, h2, h3, h4.mono hn⟩

theorem len1 {α : Type} {l : List α} (h : l.length = 1) : ∃ a, l = [a] := by
  match l, h with
  | [a], _ => exact ⟨a, rfl⟩
theorem len2 {α : Type} {l : List α} (h : l.length = 2) : ∃ a b, l = [a, b] := by
  match l, h with
  | [a, b], _ => exact ⟨a, b, rfl⟩
theorem len3 {α : Type} {l : List α} (h : l.length = 3) : ∃ a b c, l = [a, b, c] := by
  match l, h with
  | [a, b, c], _ => exact ⟨a, b, c, rfl⟩
theorem len4 {α : Type} {l : List α} (h : l.length = 4) : ∃ a b c d, l = [a, b, c, d] := by
  match l, h with
  | [a, b, c, d], _ => exact ⟨a, b, c, d, rfl⟩
structure Bi (c : Cx) : Prop where
  len : Glb c "len" (.builtin "len")
  isinstance : Glb c "isinstance" (.builtin "isinstance")
  sum : Glb c "sum" (.builtin "sum")
  max : Glb c "max" (.builtin "max")
  min : Glb c "min" (.builtin "min")
  all : Glb c "all" (.builtin "all")
  any : Glb c "any" (.builtin "any")
  sorted : Glb c "sorted" (.builtin "sorted")
  int_ : Glb c "int" (.type "int")
  list_ : Glb c "list" (.type "list")
  str_ : Glb c "str" (.type "str")
  bool_ : Glb c "bool" (.type "bool")
  range_ : Glb c "range" (.type "range")

noncomputable def notBound (p : Program) (loose : List Str) (x : Str) : Bool :=
  !(startupNames.contains x || loose.contains x || ((recsOf p).map (·.name)).contains x || ((litsOf p).map (·.1)).contains x || ((clssOf p loose).map (·.name)).contains x || x == ("__name__" : Str))
theorem glb_of {p : Program} {loose : List Str} {mean : ExcName → Option Value} {mg mb : Str → Option Value} {s : Shared} {prog : Program} {w : World} (T : Top p loose mean mg mb s.heap) {x : Str} {v : Value}
    (h1 : notBound p loose x = true) (h2 : bootBuiltins x = some v) : Glb (cxOf prog w s mg mb) x v := by
  simp only [notBound, Bool.not_eq_true', Bool.or_eq_false_iff, beq_eq_false_iff_ne, ne_eq] at h1
  obtain ⟨⟨⟨⟨⟨a1, a2⟩, a3⟩, a4⟩, a5⟩, a6⟩ := h1
  refine .inr ⟨T.free x ?_ ?_ ?_ ?_ ?_, (T.builtins x a6).trans h2⟩
  · simpa using a1
  · simpa using a2
  · exact fun h => absurd (List.contains_iff_mem.mpr h) (by rw [a3]; decide)
  · exact fun h => absurd (List.contains_iff_mem.mpr h) (by rw [a4]; decide)
  · exact fun h => absurd (List.contains_iff_mem.mpr h) (by rw [a5]; decide)
noncomputable def allFree (p : Program) (loose : List Str) : Bool := (["len", "isinstance", "sum", "max", "min", "all", "any", "sorted", "int", "list", "str", "bool", "range"] : List Str).all (notBound p loose)
theorem bi_of {p : Program} {loose : List Str} {mean : ExcName → Option Value} {mg mb : Str → Option Value} {s : Shared} {prog : Program} {w : World} (T : Top p loose mean mg mb s.heap) (h : allFree p loose = true) : Bi (cxOf prog w s mg mb) := by
  have hx : ∀ x ∈ (["len", "isinstance", "sum", "max", "min", "all", "any", "sorted", "int", "list", "str", "bool", "range"] : List Str), notBound p loose x = true := fun x hx => List.all_eq_true.mp h x hx
  exact ⟨glb_of T (hx _ (by simp)) (by kernel_rfl), glb_of T (hx _ (by simp)) (by kernel_rfl), glb_of T (hx _ (by simp)) (by kernel_rfl), glb_of T (hx _ (by simp)) (by kernel_rfl), glb_of T (hx _ (by simp)) (by kernel_rfl), glb_of T (hx _ (by simp)) (by kernel_rfl),
    glb_of T (hx _ (by simp)) (by kernel_rfl), glb_of T (hx _ (by simp)) (by kernel_rfl), glb_of T (hx _ (by simp)) (by kernel_rfl), glb_of T (hx _ (by simp)) (by kernel_rfl), glb_of T (hx _ (by simp)) (by kernel_rfl), glb_of T (hx _ (by simp)) (by kernel_rfl), glb_of T (hx _ (by simp)) (by kernel_rfl)⟩
end Mine
namespace Mine
open PySem PySem.Calls PyProof.Rows PySem.SeqAt PySem.W

-- values, step by step
@[simp] theorem addF_int (a b : Int) : addF [.int a, .int b] = some (.ok (.int (a + b), 2)) := rfl
theorem addF_str (a b : List Nat) (h : (a ++ b).length ≤ lim) : addF [.str a, .str b] = some (.ok (.str (a ++ b), 2)) := by simp only [addF, okS, h, if_true]
theorem addF_list (a b : List D) (h : (a ++ b).length ≤ lim) : addF [.list a, .list b] = some (.ok (.list (a ++ b), lvOf (a ++ b))) := by simp only [addF, okL, h, if_true]
@[simp] theorem subF_int (a b : Int) : subF [.int a, .int b] = some (.ok (.int (a - b), 2)) := rfl
theorem mulF_int (a b : Int) (h : mulOk a b = true) : mulF [.int a, .int b] = some (.ok (.int (a * b), 2)) := by simp only [mulF, h, if_true]; rfl
theorem modF_int (a b : Int) (h : b ≠ 0) : modF [.int a, .int b] = some (.ok (.int (a.fmod b), 2)) := by simp only [modF, ne_eq, h, not_false_eq_true, if_true]; rfl
theorem divF_int (a b : Int) (h : b ≠ 0) (h2 : b.natAbs < 1073741824) : divF [.int a, .int b] = some (.ok (.int (a.fdiv b), 2)) := by simp only [divF, ne_eq, h, not_false_eq_true, h2, and_self, if_true]; rfl
@[simp] theorem ltF_int (a b : Int) : ltF [.int a, .int b] = some (.ok (.bool (decide (a < b)), 2)) := rfl
@[simp] theorem leF_int (a b : Int) : leF [.int a, .int b] = some (.ok (.bool (decide (a ≤ b)), 2)) := rfl
@[simp] theorem gtF_int (a b : Int) : gtF [.int a, .int b] = some (.ok (.bool (decide (b < a)), 2)) := rfl
@[simp] theorem geF_int (a b : Int) : geF [.int a, .int b] = some (.ok (.bool (decide (b ≤ a)), 2)) := rfl
@[simp] theorem eqF_int (a b : Int) : eqF [.int a, .int b] = some (.ok (.bool (a == b), 2)) := by simp [eqF, D.cmpb, D.dep, D.eqb, okB]
@[simp] theorem neF_int (a b : Int) : neF [.int a, .int b] = some (.ok (.bool (!(a == b)), 2)) := by simp [neF, D.cmpb, D.dep, D.eqb, okB]
@[simp] theorem eqF_str (a b : List Nat) : eqF [.str a, .str b] = some (.ok (.bool (a == b), 2)) := by simp [eqF, D.cmpb, D.dep, D.eqb, okB]
@[simp] theorem neF_str (a b : List Nat) : neF [.str a, .str b] = some (.ok (.bool (!(a == b)), 2)) := by simp [neF, D.cmpb, D.dep, D.eqb, okB]
@[simp] theorem truthD_bool (b : Bool) : truthD (.bool b) = some b := rfl
@[simp] theorem truthD_int (i : Int) : truthD (.int i) = some (i != 0) := rfl
theorem lenF_list (xs : List D) (h : xs.length ≤ big) : lenF [.list xs] = some (.ok (.int xs.length, 2)) := by simp only [lenF, h, if_true]; rfl
theorem lenF_str (xs : List Nat) (h : xs.length ≤ big) : lenF [.str xs] = some (.ok (.int xs.length, 2)) := by simp only [lenF, h, if_true]; rfl
@[simp] theorem andF_true (lv : Nat) (g : Option (R (D × Nat))) : andF (.bool true, lv) g = g := rfl
@[simp] theorem andF_false (lv : Nat) (g : Option (R (D × Nat))) : andF (.bool false, lv) g = some (.ok (.bool false, lv)) := rfl
@[simp] theorem orF_true (lv : Nat) (g : Option (R (D × Nat))) : orF (.bool true, lv) g = some (.ok (.bool true, lv)) := rfl
@[simp] theorem orF_false (lv : Nat) (g : Option (R (D × Nat))) : orF (.bool false, lv) g = g := rfl
@[simp] theorem isiF_list (xs : List D) (lv : Nat) : isiF "list" (.list xs, lv) = some (.ok (.bool true, 2)) := rfl
@[simp] theorem isiF_str (xs : List Nat) (lv : Nat) : isiF "str" (.str xs, lv) = some (.ok (.bool true, 2)) := rfl
@[simp] theorem isiF_int (i : Int) (lv : Nat) : isiF "int" (.int i, lv) = some (.ok (.bool true, 2)) := rfl
@[simp] theorem isiF_bool (i : Int) (lv : Nat) : isiF "bool" (.int i, lv) = some (.ok (.bool false, 2)) := rfl
theorem idxD_nat {k i : Nat} (h : i < k) (hb : k ≤ big) : idxD k (i : Int) = some i := by
  unfold idxD
  rw [if_pos hb, if_pos (Int.natCast_nonneg i), if_pos (by omega)]
  rfl
theorem itemF_list {xs : List D} {i : Nat} {d : D} (h : xs[i]? = some d) (hb : xs.length ≤ big) : itemF [.list xs, .int (i : Int)] = some (.ok (d, 0)) := by
  have hi := (List.getElem?_eq_some_iff.mp h).1
  simp only [itemF, idxD_nat hi hb, Option.bind_some, h, Option.map_some]
theorem itemF_str {xs : List Nat} {i : Nat} {d : Nat} (h : xs[i]? = some d) (hb : xs.length ≤ big) : itemF [.str xs, .int (i : Int)] = some (.ok (.str [d], 2)) := by
  have hi := (List.getElem?_eq_some_iff.mp h).1
  simp only [itemF, idxD_nat hi hb, Option.bind_some, h, Option.map_some]
theorem rngF_nat (k : Nat) (h : k ≤ lim) : rngF [.int (k : Int)] = some (.ok ((List.range k).map fun (i : Nat) => .int (i : Int))) := by
  have h2 : (k : Int) ≤ 1000000000 := by unfold lim at h; omega
  have h3 : ((k : Int) - 0).toNat = k := by omega
  simp only [rngF, rngU]
  rw [if_pos ⟨by omega, by omega, h2, by omega, by rw [h3]; exact h⟩, h3]
  simp
@[simp] theorem setV_int (occ : List Nat) (i : Nat) (a : Int) (lv : Nat) (Γ : G) : setV occ i (.int a, lv) Γ = Γ.set i (some (.int a, 2)) := rfl
@[simp] theorem setV_str (occ : List Nat) (i : Nat) (a : List Nat) (lv : Nat) (Γ : G) : setV occ i (.str a, lv) Γ = Γ.set i (some (.str a, 2)) := rfl
@[simp] theorem setV_bool (occ : List Nat) (i : Nat) (a : Bool) (lv : Nat) (Γ : G) : setV occ i (.bool a, lv) Γ = Γ.set i (some (.bool a, 2)) := rfl
@[simp] theorem setV_none (occ : List Nat) (i : Nat) (lv : Nat) (Γ : G) : setV occ i (.none, lv) Γ = Γ.set i (some (.none, 2)) := rfl
@[simp] theorem setV_list2 (occ : List Nat) (i : Nat) (xs : List D) (Γ : G) : setV occ i (.list xs, 2) Γ = Γ.set i (some (.list xs, 2)) := rfl
@[simp] theorem getV_z (d : D) (lv : Nat) (Γ : G) : getV 0 (some (d, lv) :: Γ) = some (.ok (d, 0)) := rfl
@[simp] theorem getV_s (i : Nat) (x : Option (D × Nat)) (Γ : G) : getV (i + 1) (x :: Γ) = getV i Γ := rfl
@[simp] theorem retV_z (d : D) (lv : Nat) (Γ : G) : retV 0 (some (d, lv) :: Γ) = some (.ret d lv) := rfl
@[simp] theorem retV_s (i : Nat) (x : Option (D × Nat)) (Γ : G) : retV (i + 1) (x :: Γ) = retV i Γ := rfl
@[simp] theorem itemLv_int (i : Int) : itemLv (.int i) = 2 := rfl
@[simp] theorem itemLv_str (i : List Nat) : itemLv (.str i) = 2 := rfl
@[simp] theorem itemLv_list (i : List D) : itemLv (.list i) = 0 := rfl
@[simp] theorem itemLv_bool (i : Bool) : itemLv (.bool i) = 2 := rfl
@[simp] theorem itemLv_none : itemLv .none = 2 := rfl
@[simp] theorem loopF_nil (fB : G → Option O) (ix : Nat) (Γ : G) : loopF fB ix [] Γ = some (.next Γ) := rfl
theorem loopF_cons (fB : G → Option O) (ix : Nat) (x : D) (xs : List D) (Γ : G) : loopF fB ix (x :: xs) Γ = match fB (Γ.set ix (some (x, itemLv x))) with
    | some (.next Γ') => loopF fB ix xs Γ'
    | some (.cont Γ') => loopF fB ix xs Γ'
    | some (.brk Γ') => some (.next Γ')
    | some (.ret d lv) => some (.ret d lv)
    | _ => none := rfl
theorem loopF_next {fB : G → Option O} {ix : Nat} {x : D} {xs : List D} {Γ Γ' : G} (h : fB (Γ.set ix (some (x, itemLv x))) = some (.next Γ')) : loopF fB ix (x :: xs) Γ = loopF fB ix xs Γ' := by rw [loopF_cons, h]
theorem loopF_ret {fB : G → Option O} {ix : Nat} {x : D} {xs : List D} {Γ : G} {d : D} {lv : Nat} (h : fB (Γ.set ix (some (x, itemLv x))) = some (.ret d lv)) : loopF fB ix (x :: xs) Γ = some (.ret d lv) := by rw [loopF_cons, h]
theorem loopF_brk {fB : G → Option O} {ix : Nat} {x : D} {xs : List D} {Γ Γ' : G} (h : fB (Γ.set ix (some (x, itemLv x))) = some (.brk Γ')) : loopF fB ix (x :: xs) Γ = some (.next Γ') := by rw [loopF_cons, h]
theorem whileF_go {fT : G → Option (R Bool)} {fB : G → Option O} {k : Nat} {Γ Γ' : G} (h1 : fT Γ = some (.ok true)) (h2 : fB Γ = some (.next Γ')) : whileF fT fB (k + 1) Γ = whileF fT fB k Γ' := by rw [whileF, h1, h2]
theorem whileF_end {fT : G → Option (R Bool)} {fB : G → Option O} {k : Nat} {Γ : G} (h1 : fT Γ = some (.ok false)) : whileF fT fB (k + 1) Γ = some (.next Γ) := by rw [whileF, h1]
/-- a walk that keeps a form -/
theorem loopF_inv {α : Type} {fB : G → Option O} {ix : Nat} (P : Nat → G → Prop) (xs : List D) (k : Nat) (Γ : G) (h0 : P k Γ) (step : ∀ (i : Nat) (Γ : G) (x : D), xs[i]? = some x → P (k + i) Γ → ∃ Γ', fB (Γ.set ix (some (x, itemLv x))) = some (.next Γ') ∧ P (k + i + 1) Γ') :
    ∃ Γ', loopF fB ix xs Γ = some (.next Γ') ∧ P (k + xs.length) Γ' := by
  induction xs generalizing k Γ with
  | nil => exact ⟨Γ, rfl, h0⟩
  | cons x xs ih =>
    obtain ⟨Γ₁, h1, h2⟩ := step 0 Γ x rfl h0
    obtain ⟨Γ₂, h3, h4⟩ := ih (k + 1) Γ₁ h2 (fun i Γ y hy hP => by
      have := step (i + 1) Γ y (by simpa using hy) (by rw [show k + (i + 1) = k + 1 + i by omega]; exact hP)
      rw [show k + (i + 1) = k + 1 + i by omega] at this
      exact this)
    exact ⟨Γ₂, (loopF_next h1).trans h3, by rw [List.length_cons, show k + (xs.length + 1) = k + 1 + xs.length by omega]; exact h4⟩
-- comprehensions
theorem compF_of {fE : G → Option (R (D × Nat))} {fC : G → Option (R Bool)} {cap : List Nat} {Γ : G} {xs ds : List D} (h : compD fE fC cap Γ xs = some ds) : compF fE fC cap Γ xs = some (.ok (.list ds, lvOf ds)) := by rw [compF, h]; rfl
theorem lvOf_strs (ts : List (List Nat)) : lvOf (ts.map .str) = 2 := by unfold lvOf; rw [flats_strs]; rfl
theorem flats_ints : ∀ (ts : List Int), D.flats (ts.map .int) = true
  | [] => rfl
  | t :: ts => by rw [List.map_cons, D.flats, flats_ints ts]; rfl
theorem lvOf_ints (ts : List Int) : lvOf (ts.map .int) = 2 := by unfold lvOf; rw [flats_ints]; rfl
theorem itF_list (xs : List D) (lv : Nat) (h : xs.length ≤ lim) : itF (.list xs, lv) = some (.ok xs) := by simp only [itF, h, if_true]
theorem itS_str (xs : List Nat) (lv : Nat) (h : xs.length ≤ lim) : itS (.str xs, lv) = some (.ok (xs.map fun ch => .str [ch])) := by simp only [itS, h, if_true]
theorem sliceF_list (lo hi : Option Int) (xs : List D) (h : xs.length ≤ lim) : sliceF lo hi (.list xs) = some (.ok (.list (sliceL xs lo hi), lvOf (sliceL xs lo hi))) := by simp only [sliceF, h, if_true]
theorem fnF_of {np k : Nat} {f : G → Option O} {ds : List D} (h : ds.length = np) : fnF np k f ds = outF (f (argG k ds)) := by unfold fnF; rw [if_pos h]
-- equal lists of leaves
theorem eqs_strs : ∀ (a b : List (List Nat)), D.eqs (a.map .str) (b.map .str) = decide (a = b)
  | [], [] => by simp [D.eqs]
  | [], _ :: _ => by simp [D.eqs]
  | _ :: _, [] => by simp [D.eqs]
  | x :: a, y :: b => by
    rw [List.map_cons, List.map_cons, D.eqs, eqs_strs a b, D.eqb, Bool.eq_iff_iff]
    simp
theorem cmps_strs : ∀ (a b : List (List Nat)), D.cmps (a.map .str) (b.map .str) = true
  | [], [] => by simp [D.cmps]
  | [], _ :: _ => by simp [D.cmps]
  | _ :: _, [] => by simp [D.cmps]
  | x :: a, y :: b => by rw [List.map_cons, List.map_cons, D.cmps, cmps_strs a b]; rfl
theorem deps_strs : ∀ (a : List (List Nat)), D.deps (a.map .str) = 0
  | [] => rfl
  | x :: a => by rw [List.map_cons, D.deps, deps_strs a]; rfl
theorem eqF_strs (a b : List (List Nat)) : eqF [.list (a.map .str), .list (b.map .str)] = some (.ok (.bool (decide (a = b)), 2)) := by
  simp [eqF, D.cmpb, D.dep, D.eqb, okB, eqs_strs, cmps_strs, deps_strs]
-- slices by numbers that are not below nought
theorem clip_nat (n k : Nat) : clipAt n (k : Int) = min k n := by
  have := clipAt_cast n (k : Int)
  rw [if_neg (by omega)] at this
  omega
theorem sliceL_from {α : Type} (xs : List α) (k : Nat) : sliceL xs (some (k : Int)) none = xs.drop k := by
  simp only [sliceL, Option.elim_some, Option.elim_none, clip_nat]
  rw [List.take_of_length_le (by rw [List.length_drop]; omega)]
  by_cases h : k ≤ xs.length
  · rw [Nat.min_eq_left h]
  · rw [List.drop_eq_nil_of_le (by omega), List.drop_eq_nil_of_le (by omega)]
theorem sliceL_mid {α : Type} (xs : List α) (i j : Nat) : sliceL xs (some (i : Int)) (some (j : Int)) = (xs.drop i).take (j - i) := by
  simp only [sliceL, Option.elim_some, clip_nat]
  by_cases h : i ≤ xs.length
  · rw [Nat.min_eq_left h]
    by_cases h2 : j ≤ xs.length
    · rw [Nat.min_eq_left h2]
    · rw [List.take_of_length_le (by rw [List.length_drop]; omega), List.take_of_length_le (by rw [List.length_drop]; omega)]
  · rw [List.drop_eq_nil_of_le (by omega), List.drop_eq_nil_of_le (by omega)]; simp
end Mine
namespace Mine
open PySem PySem.Calls PyProof.Rows PySem.SeqAt PySem.W

-- isinstance of an own exception
section
variable {prog : Program} {w : World} {A : Around} {E : Value → Shared → Prop} {s : Shared} {K : Frag} {x D : Addr} {ox : Obj} {name : Str}

theorem xclass {Q : Option Value → Shared → Prop} (X : K.In s.heap) (I : PySem.W.InstAt s.heap x ox D none) (e : excIn K D = true) (h : Q (some (.ref D)) { s with toks := s.toks + 1 }) : wpAny (model prog w) A (getAttr? (.ref x) "__class__") Q E s := by
  simp only [excIn, Bool.and_eq_true, beq_iff_eq] at e
  obtain ⟨⟨⟨⟨⟨⟨⟨e1, e2⟩, e3⟩, e4⟩, e5⟩, e6⟩, e7⟩, e8⟩ := e
  have hf : findObj K D none "__class__" = some (.bind (.builtin "getset_descriptor.__get__") (.builtin "object.__class__")) := by
    obtain ⟨cd, hc⟩ := Option.isSome_iff_exists.mp e1
    unfold findObj
    rw [hc, Option.bind_some, e4, Option.bind_some]
    simp [e5, e6]
  obtain ⟨hh, g, d, t, os⟩ := s
  have L0 := I.type (M := model prog w)
  have L1 := looks_findIn (M := model prog w) X e2
  have L2 : Looks (model prog w) hh (hookBefore (.ref D)) none := looks_hook X (by rw [show onTheHeap (Value.ref D) = true from rfl, if_pos rfl]; exact e3)
  have L3 := looks_find (M := model prog w) X I hf
  unfold getAttr? getAttrBy? getAttrBy
  refine wpAny_bind (wpAny_mkText (wpAny_bind (wpAny_attempt (wpAny_holding (wpAny_bind (L0.at (wpAny_bind (L1.at ?_))))))))
  dsimp only
  rw [show (onTheHeap (Value.ref D) && Value.builtin "BaseException.__getattribute__" == Value.builtin "object.__getattribute__") = false from by rw [show (Value.builtin "BaseException.__getattribute__" == Value.builtin "object.__getattribute__") = false from by decide +kernel, Bool.and_false], if_neg (by decide)]
  unfold getAttrByItsOwn
  refine wpAny_bind (L2.at (wpAny_bind (wpAny_attempt (wpAny_holding ?_))))
  unfold callGetattribute
  rw [show (false && onTheHeap (Value.builtin "BaseException.__getattribute__")) = false from rfl, if_neg (by decide)]
  unfold boundAndCalled
  rw [PySem.F.attrBase_ValueError.ga.bind]
  refine wpAny_bind (wpAny_pure ?_)
  show wpAny _ _ (call (.builtin "BaseException.__getattribute__") [.ref x, .str "__class__" t]) _ _ _
  refine wpAny_call (codeAny_call_builtin PySem.F.attrBase_ValueError.ga.plain F.entry_bexc_ga ?_)
  refine @check_slot (model prog w) _ _ ⟨hh, g, d, t + 1, os⟩ "BaseException.__getattribute__" "BaseException" "__getattribute__" (.ref x) [.str "__class__" t] [] _ (by decide +kernel) (by decide +kernel) (L0.andThen (looks_subIn X e8)) (F.args_bexc_ga (.ref x) (.str "__class__" t)) ?_
  unfold Builtin.«object.__getattribute__»
  refine wpAny_bind (wpAny_pure ?_)
  refine wpAny_bind (wpAny_pure ?_)
  refine wpAny_bind (L0.at (wpAny_bind (L3.at ?_)))
  show wpAny _ _ (holding [Value.builtin "object.__class__"] (call (.builtin "getset_descriptor.__get__") [.builtin "object.__class__", .ref x, .ref D]) >>= ret) _ _ _
  refine wpAny_bind (wpAny_holding (wpAny_call (class_get (s := ⟨hh, g, d, t + 1, os⟩) (ox := ox) (od := none) X I e7 ?_)))
  refine wpAny_pure ?_
  dsimp only
  exact handed_on rfl (wpAny_pure h)

theorem xnested {c : Value} {b : Bool} {dep : Int} {tk : Tok} {Q : Fin → Shared → Prop} (X : K.In s.heap) (I : PySem.W.InstAt s.heap x ox D none) (e : excIn K D = true) (hk : kitCls K (.ref D) c = some b) (hne : (Value.ref D == c) = true → b = true)
    (h : ∀ t, s.toks ≤ t → Q (.done (.ret (.bool b))) { s with toks := t }) :
    wpAny (model prog w) A (Builtin.«isinstance.nested» ⟨[.ref x, c, .int dep tk], []⟩) Q E s := by
  obtain ⟨hty, his, hsub⟩ := kit_cls (M := model prog w) X hk
  have e' := e
  simp only [excIn, Bool.and_eq_true, beq_iff_eq] at e'
  obtain ⟨⟨⟨⟨⟨⟨⟨e1, e2⟩, e3⟩, e4⟩, e5⟩, e6⟩, e7⟩, e8⟩ := e'
  have hisD : Looks (model prog w) s.heap (isType (.ref D)) true := by
    obtain ⟨cdD, hcD⟩ := Option.isSome_iff_exists.mp e1
    unfold clsIn at hcD
    split at hcD
    · rename_i c' d' cd' sl' ho
      intro A' Q' E' s' k q
      unfold isType loadHead
      exact wpAny_bind (wpAny_loadPart (k _ _ (X _ _ ho)) (wpAny_pure q))
    · exact nos hcD
  obtain ⟨h0, g, d, tt, os⟩ := s
  have L0 := I.type (M := model prog w)
  have LI : Looks (model prog w) h0 (isInstance (.ref x) c) b := L0.andThen hsub
  have hend := h tt (Nat.le_refl _)
  unfold Builtin.«isinstance.nested»
  refine wpAny_bind (L0.at ?_)
  by_cases q : (Value.ref D == c) = true
  · rw [if_pos q]
    rw [hne q] at hend
    exact wpAny_bind (wpAny_rule (wpAny_bind (wpAny_pure (wpAny_pure hend))))
  · rw [if_neg q]
    refine wpAny_bind (hty.at ?_)
    rw [if_pos (by decide)]
    k_delta "plainIsInstance"
    refine wpAny_bind (wpAny_bind (his.at ?_))
    simp only [Bool.not_true, Bool.false_eq_true, if_false]
    refine wpAny_bind (LI.at ?_)
    cases b with
    | true =>
      simp only [if_true]
      exact wpAny_pure (wpAny_pure hend)
    | false =>
      simp only [Bool.false_eq_true, if_false]
      refine wpAny_bind (xclass X I e ?_)
      refine wpAny_bind (hisD.at ?_)
      simp only [Bool.not_true, Bool.false_eq_true, if_false]
      refine wpAny_bind (wpAny_rule ?_)
      refine hsub.at ?_
      have hend2 := h (tt + 1) (Nat.le_succ _)
      first
        | exact wpAny_pure hend2
        | exact wpAny_pure (wpAny_pure hend2)
        | exact wpAny_bind (wpAny_pure (wpAny_pure hend2))

theorem xcall {c : Value} {b : Bool} {Q : Value → Shared → Prop} (X : K.In s.heap) (I : PySem.W.InstAt s.heap x ox D none) (e : excIn K D = true) (hk : kitCls K (.ref D) c = some b) (hne : (Value.ref D == c) = true → b = true)
    (h : ∀ t, s.toks ≤ t → Q (.bool b) { s with toks := t }) : wpAny (model prog w) A (call (.builtin "isinstance") [.ref x, c]) Q E s :=
  call_isinstance (S := fun _ R s => (K.In s.heap ∧ PySem.W.InstAt s.heap x ox D none) ∧ ∀ t, s.toks ≤ t → R (.ok (.ret (.bool b))) { s with toks := t })
    (fun _ _ _ _ _ hs => isinstance_outer (xnested hs.1.1 hs.1.2 e hk hne hs.2) (by intro q; cases q)) ⟨⟨X, I⟩, h⟩
end
end Mine
namespace Mine
open PySem PySem.Calls PyProof.Rows PySem.SeqAt PySem.W

structure Xs (c : Cx) : Prop where
  ex : ∃ K : Frag, K.In c.base ∧ ∀ k ∈ excNames, ∃ C, c.mg k = some (.ref C) ∧ excIn K C = true ∧ OwnClsQ k C bmV "ValueError.__new__" c.mg c.base ∧ kitCls K (.ref C) (.type "ValueError") = some true ∧
    ∀ k' ∈ excNames, ∃ C', c.mg k' = some (.ref C') ∧ exmOne K (.ref C) (.ref C') = some (subX k k') ∧ (C = C' → subX k k' = true)
  ve : Glb c "ValueError" (.type "ValueError")

section
variable {c : Cx} {hm : Bool} {n : Nat} {sc : Scope} {nm : List Str}

noncomputable def isiXF (T : Str) (a : D × Nat) : Option (R (D × Nat)) := match a.1 with
  | .exc k => if excNames.contains k && excNames.contains T then okB (subX k T) else none
  | _ => none
theorem exc_inst {h : Heap} {v : Value} {k : Str} {fp : List Addr} {C : Addr} (r : Rp c.mg h v (.exc k) fp) (hC : c.mg k = some (.ref C)) : ∃ a o, v = .ref a ∧ PySem.W.InstAt h a o C none := by
  obtain ⟨h0, h1, h2, h3, h4⟩ := r.inv
  rw [hC] at h0; cases h0
  exact ⟨_, _, rfl, ⟨h1, h2, by unfold notCls; rw [h3], by rw [h4]; trivial⟩⟩
theorem den_isiX {e : Expr} {x : Str} {np tp pos : Pos} {o1 : List Nat} {f : G → Option (R (D × Nat))} (ok : c.Ok) (hg : Glb c "isinstance" (.builtin "isinstance")) (X : Xs c) (h1 : Den c hm n sc nm e o1 f)
    (hk : sc.names.lookup ("isinstance" : Str) = some .globalImplicit := by kernel_rfl) (hk2 : sc.names.lookup x = some .globalImplicit := by kernel_rfl) (hd : (x == ("__debug__" : Str)) = false := by kernel_rfl) (hs : NotStar e := by intro _ _; rfl) :
    Den c hm n sc nm (.Call (.Name "isinstance" np) [e, .Name x tp] [] pos) [] (fun Γ => bindR (f Γ) (isiXF x)) := by
  intro A l env Γ vf s r Q E hsc hR hRd hf hQ hE
  obtain ⟨m, hn⟩ := hRd.ns
  refine Call_ (load_glb ok hRd hsc hk (by rfl) hg ?_) (by rfl)
  refine PyProof.Rows.callWith_builtin1 ?_ (hs _ _)
  refine args_cons (h1.run hsc hR hRd hf (fun d la _ hg2 va fa s₁ st₁ ra ta lva hR₁ hRd₁ => ?_) hE) (hs _ _)
  unfold isiXF at hg2
  cases d with
  | exc k =>
    dsimp only at hg2
    split at hg2
    · rename_i hc
      obtain rfl := Option.some.inj hg2
      simp only [Bool.and_eq_true, List.contains_iff_mem] at hc
      obtain ⟨K, hK, hX⟩ := X.ex
      obtain ⟨C, c1, c2, c3, c4, c5⟩ := hX k hc.1
      obtain ⟨C', d1, d2, d3⟩ := c5 x hc.2
      obtain ⟨a, o, rfl, I⟩ := exc_inst ra c1
      refine args_cons (load_glb ok hRd₁ hsc hk2 hd (.inl d1) (args_nil ?_))
      have hkc : kitCls K (.ref C) (.ref C') = some (subX k x) := by
        unfold exmOne at d2
        split at d2
        · exact d2
        · exact nos d2
      refine xcall (hK.keeps hRd₁.bs.1) I c2 hkc (fun q => d3 ?_) fun t ht => ?_
      · simpa using q
      · exact hQ _ _ _ _ _ rfl (st₁.trans (St.toks hRd₁.bs _ (by have := hRd₁.bs.2; omega))) (.bool _) Tr.nil (Lv.nil _ _)
    · exact nos hg2
  | _ => exact nos hg2
theorem denS_raise {x t : Str} {k : Nat} {np p cpos pos : Pos} (ok : c.Ok) (X : Xs c) (hx : excNames.contains x = true := by kernel_rfl) (hk : sc.names.lookup x = some .globalImplicit := by kernel_rfl) (hd : (x == ("__debug__" : Str)) = false := by kernel_rfl) :
    DenS c false n sc nm (.Raise (some (.Call (.Name x np) [.Constant (.str t) k p] [] cpos)) none pos) (fun _ => some (.raise x)) := by
  intro A l env h₀ f₀ Γ vf s r Q E hsF hR iv hf hQ hE
  have hsc := hsF.1
  obtain rfl := Option.some.inj hf
  obtain ⟨K, hK, hX⟩ := X.ex
  obtain ⟨C, c1, c2, O, _⟩ := hX x (List.contains_iff_mem.mp hx)
  obtain ⟨tl, N, nm', q, bs, hdct, sn, sub, ab, col, dd, k0, k1, k2, k3, k5, mN, hC, hN, hq, T⟩ := O.obj
  refine wpAny_Raise_call_subT (C := C) (nm := nm') (q := q) (N := N) (bs := bs) (bm := tl) (hdct := hdct) (sn := sn) (sub := sub) (ab := ab) (col := col) (dd := dd) (k0 := k0) (k1 := k1) (k2 := k2) (k3 := k3) (k5 := k5)
    PySem.F.excBase_ValueError (mN := mN) (T.tail.hasType PySem.F.excBase_ValueError.hasBase) hR.hm rfl (hq _ (.head _)) (load_glb ok iv.rd hsc hk hd (.inl c1) ⟨rfl, ?_⟩)
  refine Calls.evalArgs_plain (args_cons (Constant_str (args_nil ⟨rfl, by show 1 ≤ _; unfold sizeLine; omega, ?_, ?_, ?_, fun h' e hm => ?_⟩)))
  · exact iv.rd.bs.1 _ _ hC
  · exact hN.keeps iv.rd.bs.1
  · exact T.tail.keeps iv.rd.bs.1
  · refine hE _ _ ⟨⟨h', s.toks + 1, rfl⟩, ⟨fun b o e => hm.keeps b o (iv.rd.bs.1 b o e), by show 1 ≤ s.toks + 1; omega⟩, s.heap, e, C, _, rfl, c1, hm, iv.kb, iv.rd.bs.1, hR.ok⟩
end
end Mine
namespace Mine
open PySem PySem.Calls PyProof.Rows PySem.SeqAt PySem.W

section
variable {c : Cx} {hm : Bool} {n : Nat} {sc : Scope} {nm : List Str} {h₀ : Heap} {f₀ : List Addr} {env : Env} {Γ Γ' Γ'' : G} {vf vf' vf'' : Nat → Value × List Addr} {s s' s'' : Shared}

/-- a name that is not among those set goes -/
theorem Iv.drop {m m' : Str → Option Value} {h' : Heap} {tk : Nat} (iv : Iv c h₀ f₀ env nm Γ vf s) (hn : s.heap.Ns env.locals m) (hn' : h'.Ns env.locals m') (hs' : Heap.SameBut env.locals s.heap h') (htk : 1 ≤ tk)
    (hm : ∀ (j : Nat) (d : D) (lv : Nat) (y : Str), Γ[j]? = some (some (d, lv)) → nm[j]? = some y → m' y = m y) : Stp c h₀ f₀ env nm Γ vf s Γ vf { s with heap := h', toks := tk } := by
  have k : ∀ b o, s.heap.get? b = some o → NotDict o → h'.get? b = some o := fun b o e nd => hs'.extBut b o (ns_ne hn e nd) e
  have hgone : ∀ b, h'.get? b = none → s.heap.get? b = none := fun b hb => by
    cases q : s.heap.get? b with
    | none => rfl
    | some o =>
      by_cases hbL : b = env.locals
      · subst hbL; obtain ⟨o', _, _, h1, _⟩ := hn'; rw [hb] at h1; exact nos h1
      · have := hs'.extBut b o hbL q; rw [hb] at this; exact nos this
  refine ⟨⟨⟨⟨fun b o e => hs'.extBut b o (fun q => by rw [q, iv.rd.nb] at e; exact nos e) (iv.rd.bs.1 b o e), htk⟩, ⟨m', hn'⟩, iv.rd.nb, iv.rd.fn, iv.rd.gl, iv.rd.bl, iv.rd.cl, fun i d lv e => ?_⟩,
    fun b o _ e => ?_, iv.nl, fun y a e => ?_, iv.cd, iv.nd, fun i a ha => ?_, iv.org, fun i d lv e q a t r => ?_, fun i d lv e q => ?_, iv.bh⟩, ⟨h', tk, rfl⟩, fun b o hb e => ?_, fun b hb => .inl hb, hgone⟩
  · obtain ⟨y, h1, ⟨b1, b2, b3⟩, h3⟩ := iv.rd.var i d lv e
    refine ⟨y, h1, ⟨b1, b2, ?_⟩, h3.keep k⟩
    rcases b3 with ⟨b4, m'', b5, b6⟩ | ⟨b4, cl, b5, o, b6, b7⟩
    · refine .inl ⟨b4, m', hn', ?_⟩
      rw [ns_unique b5 hn] at b6
      rw [hm i d lv y e h1]; exact b6
    · exact .inr ⟨b4, cl, b5, o, k cl o b6 (notDict_of_cell b7), b7⟩
  · obtain ⟨h1, sl, h2⟩ := iv.kb b o id e
    have hb : b ≠ env.locals := fun q => by rw [q, iv.nl] at e; exact nos e
    exact ⟨fun nd => hs'.extBut b o hb (h1 nd), sl, hs'.extBut b _ hb h2⟩
  · obtain ⟨h1, v, o, h2, h3⟩ := iv.ce y a e
    exact ⟨h1, v, o, k a o h2 (notDict_of_cell h3), h3⟩
  · obtain ⟨o, vs, j, h1, h2, h3⟩ := iv.al i a ha
    exact ⟨o, vs, j, k a o h1 (notDict_of_seq h3), h2, h3⟩
  · obtain ⟨h1, h2, ⟨o, vs, j, w1, w2, w3⟩, h4⟩ := iv.own1 i d lv e q a t r
    exact ⟨h1, h2, ⟨o, vs, j, k a o w1 (notDict_of_seq w2), w2, w3⟩, h4⟩
  · obtain ⟨h1, h2⟩ := iv.own2 i d lv e q
    refine ⟨fun a ha => ?_, h2⟩
    obtain ⟨w0, ⟨o, vs, j, w1, w2, w3⟩, w4⟩ := h1 a ha
    exact ⟨w0, ⟨o, vs, j, k a o w1 (notDict_of_seq w2), w2, w3⟩, w4⟩
  · have hbL : b ≠ env.locals := fun q => hb (.inl q)
    exact ⟨fun _ => hs'.extBut b o hbL e, o.slots, hs'.extBut b o hbL e⟩
theorem RetP.drop {d : D} {lv : Nat} {v : Value} {m' : Str → Option Value} {h' : Heap} {tk : Nat} (hnl : h₀.get? env.locals = none) (hnb : c.base.get? env.locals = none) (p : RetP c h₀ f₀ env Γ vf s d lv v s') (hn' : h'.Ns env.locals m') (hs' : Heap.SameBut env.locals s'.heap h') (htk : 1 ≤ tk) :
    RetP c h₀ f₀ env Γ vf s d lv v { s' with heap := h', toks := tk } := by
  obtain ⟨⟨h, tk0, e⟩, q2, q3, q4, ⟨m, hn⟩, fp, q5, q6, q7⟩ := p
  have k : ∀ b o, s'.heap.get? b = some o → NotDict o → h'.get? b = some o := fun b o e nd => hs'.extBut b o (ns_ne hn e nd) e
  refine ⟨⟨h', tk, by rw [e]⟩, fun b o hb e => ?_, fun b o _ e => ?_, ⟨fun b o e => hs'.extBut b o (fun q => by rw [q, hnb] at e; exact nos e) (q4.1 b o e), htk⟩, ⟨m', hn'⟩, fp, q5.keep k, q6, q7.nd fun a ⟨o, vs, j, w1, w2, w3⟩ => ⟨o, vs, j, k a o w1 (notDict_of_seq w2), w2, w3⟩⟩
  · obtain ⟨h1, sl, h2⟩ := q2 b o hb e
    have hbL : b ≠ env.locals := fun q => hb (.inl q)
    exact ⟨fun nd => hs'.extBut b o hbL (h1 nd), sl, hs'.extBut b _ hbL h2⟩
  · obtain ⟨h1, sl, h2⟩ := q3 b o id e
    have hbL : b ≠ env.locals := fun q => by rw [q, hnl] at e; exact nos e
    exact ⟨fun nd => hs'.extBut b o hbL (h1 nd), sl, hs'.extBut b _ hbL h2⟩

noncomputable def tryF (T : Str) (i : Nat) (fB fH : G → Option O) (Γ : G) : Option O := match fB Γ with
  | some (.exc k Γ') => if excNames.contains k && subX k T then (match fH (Γ'.set i (some (.exc k, 2))) with
      | some (.next Γ'') => some (.next (Γ''.set i none))
      | some (.ret d lv) => some (.ret d lv)
      | _ => none) else none
  | some (.next Γ') => some (.next Γ')
  | some (.ret d lv) => some (.ret d lv)
  | _ => none

theorem denS_try {T x : Str} {tp hp pos : Pos} {body : List Stmt} {b₀ : Stmt} {suite : List Stmt} {fB fH : G → Option O} (i : Nat) (ok : c.Ok) (X : Xs c) (hB : DenSs c false n sc nm body fB) (hH : DenSs c true n sc nm (b₀ :: suite) fH)
    (hT : excNames.contains T = true := by kernel_rfl) (hx : nm[i]? = some x := by rfl) (hkl : sc.names.lookup x = some .local := by kernel_rfl) (ho : okNm x = true := by kernel_rfl)
    (hk : sc.names.lookup T = some .globalImplicit := by kernel_rfl) (hd : (T == ("__debug__" : Str)) = false := by kernel_rfl) :
    DenS c false n sc nm (.Try body [.ExceptHandler (some (.Name T tp)) (some x) (b₀ :: suite) hp] [] [] pos) (tryF T i fB fH) := by
  intro A l env h₀ f₀ Γ vf s r Q E hsF hR iv hf hQ hE
  have hsc := hsF.1
  obtain ⟨outer, hl⟩ : ∃ outer, l = env :: outer := by
    have := hsF.2.1
    cases l with
    | nil => exact nos this
    | cons a r => obtain rfl := Option.some.inj this; exact ⟨_, rfl⟩
  subst hl
  have hfr := hsF.2.2
  refine wpAny_Try_except ?_
  unfold tryF at hf
  cases hfb : fB Γ with
  | none => rw [hfb] at hf; exact nos hf
  | some o =>
    rw [hfb] at hf
    refine hB A _ env h₀ f₀ Γ vf s o _ _ hsF hR iv hfb (fun w s' p => ?_) (fun y s' p => ?_)
    · cases o with
      | next Γ' =>
        obtain rfl := Option.some.inj hf
        cases w <;> first | exact p.elim | skip
        exact wpAny_execs_nil (hQ _ _ p)
      | ret d lv =>
        obtain rfl := Option.some.inj hf
        cases w <;> first | exact p.elim | skip
        exact hQ _ _ p
      | brk Γ' => exact nos hf
      | cont Γ' => exact nos hf
      | exc k Γ' => exact p.elim
      | raise k => exact p.elim
    · cases o with
      | next Γ' => exact p.elim
      | ret d lv => exact p.elim
      | brk Γ' => exact p.elim
      | cont Γ' => exact p.elim
      | raise k => exact nos hf
      | exc k Γ' =>
        dsimp only at hf
        split at hf
        · rename_i hc
          simp only [Bool.and_eq_true, List.contains_iff_mem] at hc
          obtain ⟨vf', s₁, sp, a, C, t, bs, rfl, q2, q3, q4, q5, q6, q7, q8⟩ := p
          obtain ⟨m₁, hn₁⟩ := sp.iv.rd.ns
          -- whatever the flight changes, it keeps this frame's view
          have stAll : ∀ h', bs.StaysIn h' → s'.heap.UpToSlots h' → St c env.locals s₁ { s' with heap := h' } := fun h' hb hu => by
            have hdct : ∀ b o, s₁.heap.get? b = some o → b ≠ env.locals → ∃ sl, h'.get? b = some { o with slots := sl } := fun b o e hbL => by
              by_cases nd : NotDict o
              · exact ⟨o.slots, hb b o (q5 b o e nd)⟩
              · obtain ⟨sl, e2⟩ := q3.kp.dct b o hbL e
                obtain ⟨sl', e3⟩ := hu b _ e2 fun vs q => nd (notDict_of_fields q)
                exact ⟨sl', e3⟩
            obtain ⟨hh, tk, e⟩ := q3.same
            exact ⟨⟨h', s'.toks, by rw [e]⟩, ⟨fun b o _ e nd => hb b o (q5 b o e nd), fun b o hbL e => hdct b o e hbL, fun m hm => hu.ns (q3.kp.ns m hm)⟩, fun b o e => hb b o (q4 b o e), q3.bs.2⟩
          refine note0 hR.fr hfr q7 q8 fun h₂ hh₂ hc₂ hu₂ => ?_
          refine lands0 (s := { s' with heap := h₂ }) hh₂ hc₂ fun h₃ hf₃ hc₃ hk₃ => ?_
          have hu₃ : s'.heap.UpToSlots h₃ := hu₂.trans fun b o hb hn => ⟨o.slots, hk₃ b o hb hn⟩
          have st₃ := stAll h₃ hf₃.1 hu₃
          have iv₃ := sp.iv.keep st₃
          obtain ⟨K, hK, hX⟩ := X.ex
          obtain ⟨Ck, c1, c2, c3, c4, c5⟩ := hX k hc.1
          rw [q2] at c1; cases c1
          obtain ⟨C', d1, d2, d3⟩ := c5 T (List.contains_iff_mem.mp hT)
          rw [hc.2] at d2
          refine wpAny_handleBy_cons ?_ (by intro q; cases q)
          refine codeAny_handlers_test (load_glb ok iv₃.rd hsc hk hd (.inl d1) ?_)
          obtain ⟨oe, heo, hecls⟩ := hf₃.there
          have hlk : Looks (model c.prog c.w) h₃ (excMatches (.ref a) (.ref C')) true := exm_one (hK.keeps iv₃.rd.bs.1) (hecls ▸ (Looks.ld heo).andThen .now) d2
          refine hlk _ _ _ _ (fun _ _ e => e) ?_
          simp only [if_true]
          refine codeAny_handlers_suite_as ?_
          refine lands1 (s := { s' with heap := h₃ }) hf₃.1 hf₃.2.1 hf₃.2.2.1 hf₃.2.2.2.at hc₃ fun h₄ hf₄ hc₄ hk₄ => ?_
          have hu₄ : s'.heap.UpToSlots h₄ := hu₃.trans fun b o hb hn => ⟨o.slots, hk₄ b o hb hn⟩
          have st₄ := stAll h₄ hf₄.1 hu₄
          obtain ⟨oe4, vs4, w1, w2, w3, w4⟩ := hc₄
          obtain ⟨oe5, heo5, hecls5⟩ := hf₄.there
          rw [w1] at heo5; obtain rfl := Option.some.inj heo5
          have rpX : Rp c.mg h₄ (.ref a) (.exc k) [] := .exc q2 w1 hecls5 ⟨w2, w4⟩
          refine store (occ := []) (lv := 2) sp.iv st₄ rpX Tr.nil (Lv.nil _ _) hsc hx (by unfold stK; rw [decide_eq_true hkl]; rfl) ho fun s₅ sp₅ hkeep₅ => ?_
          have spA := sp.trans sp₅
          have hset : setV [] i (.exc k, 2) Γ' = Γ'.set i (some (.exc k, 2)) := rfl
          rw [hset] at sp₅ spA
          have hR₅ := spA.room iv hR
          have hRx : Room c true n (A.mark (some (.ref a))) (env :: outer) s₅.heap := by
            refine ⟨hR₅.fr, hR₅.ok, hR₅.depth, hR₅.units, a, oe4, vs4, rfl, ?_, w2, w3⟩
            refine hkeep₅ a oe4 (fun q => ?_) (fun y q => ?_) w1
            · obtain ⟨o', _, _, z, _⟩ := hn₁; rw [← q, q6] at z; exact nos z
            · obtain ⟨_, _, o', z, _⟩ := sp.iv.ce y a q; rw [q6] at z; exact nos z
          cases hfh : fH (Γ'.set i (some (.exc k, 2))) with
          | none => rw [hfh] at hf; exact nos hf
          | some oh =>
            rw [hfh] at hf
            have hkx : env.kindOf x = some .local := by unfold Env.kindOf; rw [hsc]; exact hkl
            have hpk : (env.scope.kind == .class || (env.scope.kind == .module && env.locals != env.globals)) = false := by rw [iv.rd.fn]; rfl
            refine hH (A.mark (some (.ref a))) _ env h₀ f₀ _ _ s₅ oh _ _ hsF hRx sp₅.iv hfh (fun w s₆ p => ?_) (fun y s₆ p => ?_)
            · cases oh with
              | next Γ'' =>
                obtain rfl := Option.some.inj hf
                cases w <;> first | exact p.elim | skip
                obtain ⟨vf'', p⟩ := p
                obtain ⟨m₆, hn₆⟩ := p.iv.rd.ns
                refine wpAny_nameGoes_keeps hkx hn₆ hpk fun h₇ u hn₇ hs₇ => ?_
                have hwk : Wk (Γ''.set i none) Γ'' := fun j d lv e => by
                  rw [List.getElem?_set] at e
                  split at e
                  · split at e <;> cases e
                  · exact ⟨lv, Nat.le_refl _, e⟩
                have ivw := p.iv.wk hwk
                have dr := ivw.drop (tk := s₆.toks + 1) hn₆ hn₇ hs₇ (by omega) fun j d lv y e hy => by
                  have hj : j ≠ i := fun q => by
                    subst q
                    rw [List.getElem?_set] at e
                    simp only [if_true] at e
                    split at e <;> cases e
                  have : y ≠ x := nodup_ne iv.nd hx hy hj
                  simp [this]
                exact hQ _ _ ⟨vf'', (spA.trans p).trans ((p.iv.wkS hwk).trans dr)⟩
              | ret d lv =>
                obtain rfl := Option.some.inj hf
                cases w <;> first | exact p.elim | skip
                obtain ⟨m₆, hn₆⟩ := p.ns
                refine wpAny_nameGoes_keeps hkx hn₆ hpk fun h₇ u hn₇ hs₇ => ?_
                exact hQ _ _ (Post.back (nm := nm) (o := .ret d lv) (f := .ret _) spA (p.drop (tk := s₆.toks + 1) iv.nl iv.rd.nb hn₇ hs₇ (by omega)))
              | brk Γ'' => exact nos hf
              | cont Γ'' => exact nos hf
              | exc k Γ'' => exact nos hf
              | raise k => exact nos hf
            · cases oh <;> first | exact p.elim | cases hf
        · exact nos hf
end
end Mine
namespace Mine
open PySem PySem.Calls PyProof.Rows PySem.SeqAt PySem.W

section
variable {c : Cx} {hm : Bool} {n : Nat}

noncomputable def intsOf : List D → Option (List Int)
  | [] => some []
  | .int i :: r => (intsOf r).map (i :: ·)
  | _ => none
theorem intsOf_map (ns : List Int) : intsOf (ns.map .int) = some ns := by
  induction ns with
  | nil => rfl
  | cons t ts ih => rw [List.map_cons, intsOf, ih]; rfl
theorem intsOf_cons {d : D} {ds : List D} {ns : List Int} (h : intsOf (d :: ds) = some ns) : ∃ i ns', d = .int i ∧ intsOf ds = some ns' ∧ ns = i :: ns' := by
  cases d with
  | int i => obtain ⟨ns', h1, h2⟩ := Option.map_eq_some_iff.mp h; exact ⟨i, ns', rfl, h1, h2.symm⟩
  | _ => exact nos h
theorem intsOf_vals {X : Str → Option Value} {h : Heap} {ds : List D} {vs : List Value} {fp : List Addr} {ns : List Int} (r : Rps X h vs ds fp) (e : intsOf ds = some ns) : ∃ xs : List (Int × Tok), vs = xs.map (fun p => .int p.1 p.2) ∧ xs.map (·.1) = ns :=
  r.ind (Ps := fun vs ds _ => ∀ ns, intsOf ds = some ns → ∃ xs : List (Int × Tok), vs = xs.map (fun p => .int p.1 p.2) ∧ xs.map (·.1) = ns) (fun ns e => ⟨[], rfl, Option.some.inj e⟩)
    (fun r _ ih ns e => by
      obtain ⟨i, ns', rfl, e1, rfl⟩ := intsOf_cons e
      obtain ⟨t, rfl, rfl⟩ := r.inv
      obtain ⟨l, rfl, rfl⟩ := ih ns' e1
      exact ⟨(i, t) :: l, rfl, rfl⟩) ns e

theorem preSum_eq (val : Nat → Int) : ∀ (ns : List Int), (∀ i (h : i < ns.length), val i = ns[i]) → preSum val ns.length = ns.sum := by
  intro ns h
  have key : ∀ j, j ≤ ns.length → preSum val j = (ns.take j).sum := by
    intro j
    induction j with
    | zero => intro _; simp [preSum]
    | succ j ih =>
      intro hj
      rw [preSum, ih (by omega), List.take_succ_eq_append_getElem (by omega), List.sum_append, h j (by omega)]
      simp
  rw [key _ (Nat.le_refl _), List.take_length]

theorem Hm.in1 {A : Around} {h : Heap} (x : Hm hm A h) : Hm hm A.in1 h := by
  cases hm with
  | false => exact x
  | true => obtain ⟨a, o, vs, h1, h2, h3, h4⟩ := x; exact ⟨a, o, vs, h1, h2, h3, h4⟩
noncomputable def sumF : List D → Option (R (D × Nat))
  | [.list ds] => match intsOf ds with
    | some ns => okI ns.sum
    | none => none
  | _ => none
theorem op_sum : OpN c hm n (fun vs => call (.builtin "sum") vs) sumF := by
  intro A l L m s vs ds fp r Q E hR hn nb hb rs hf hQ hE
  unfold sumF at hf
  split at hf
  · rename_i es
    obtain ⟨va, rfl, ra⟩ := rs.inv1
    split at hf
    · rename_i ns hns
      obtain rfl := Option.some.inj hf
      obtain ⟨x, vx, f, hx, rx⟩ := listObj ra
      obtain ⟨xs, h1, h2⟩ := intsOf_vals rx hns
      refine call_sum_walkAnyS (wpAny_pyIter_list hx ?_)
      obtain ⟨fpw, W, hW, h0, hfp, _, hWI⟩ := walk_list (prog := c.prog) (w := c.w) (hm := hm) (A := A.in1) hR.hm.in1 hx
      refine ⟨_, fpw, _, _, _, _, _, fun i => ns.getD i 0, rfl, hW.toS, h0, fun b hb => ?_, fun i v hv => ?_, fun s' t' hM => ?_⟩
      · by_cases q : b = s.heap.objs.size
        · rw [q]; show _ < (s.heap.push (listIt x)).objs.size; rw [Heap.size_push]; exact Nat.lt_succ_self _
        · obtain ⟨o, e, _⟩ := hfp b hb q; exact Heap.lt_size e
      · have e : vx.toList[i]? = some v := by simpa using hv
        rw [h1, List.getElem?_map] at e
        obtain ⟨p, e1, rfl⟩ := Option.map_eq_some_iff.mp e
        refine ⟨p.2, ?_⟩
        have : ns[i]? = some p.1 := by rw [← h2, List.getElem?_map, e1]; rfl
        dsimp only
        rw [List.getD_eq_getElem?_getD, this]; rfl
      · have hlen : vx.size = ns.length := by rw [← h2, List.length_map, ← Array.length_toList, h1, List.length_map]
        have hsum : preSum (fun i => ns.getD i 0) vx.size = ns.sum := by
          rw [hlen]
          exact preSum_eq _ ns fun i hi => by rw [List.getD_eq_getElem?_getD, List.getElem?_eq_getElem hi]; rfl
        rw [hsum]
        obtain ⟨m1, m2, m3, m4, m5⟩ := hM
        have hs' : s' = { s with heap := s'.heap, toks := s'.toks } := by
          obtain ⟨a1, a2, a3, a4, a5⟩ := s'
          dsimp only at m2 m3 m4
          subst m2; subst m3; subst m4
          rfl
        rw [hs']
        refine flatQ hQ rfl (St.of_keeps hb _ _ (fun b o e => m1 b o (fun q => ?_) (Heap.get?_push_of_some _ e)) (Nat.le_trans hb.2 m5)) (.int _ _)
        have := Heap.lt_size e
        rw [List.mem_singleton.mp q] at this; exact Nat.lt_irrefl _ this
    · exact nos hf
  · exact nos hf

noncomputable def allB : List D → Option (List Bool)
  | [] => some []
  | .bool i :: r => (allB r).map (i :: ·)
  | _ => none
theorem allB_map (ns : List Bool) : allB (ns.map .bool) = some ns := by
  induction ns with
  | nil => rfl
  | cons t ts ih => rw [List.map_cons, allB, ih]; rfl
theorem allB_vals {X : Str → Option Value} {h : Heap} {ds : List D} {vs : List Value} {fp : List Addr} {ns : List Bool} (r : Rps X h vs ds fp) (e : allB ds = some ns) : vs = ns.map .bool :=
  r.ind (Ps := fun vs ds _ => ∀ ns, allB ds = some ns → vs = ns.map .bool) (fun ns e => by obtain rfl := Option.some.inj e; rfl)
    (fun {_ _ d _ _ _} r _ ih ns e => by
      cases d with
      | bool i =>
        obtain ⟨ns', e1, rfl⟩ := Option.map_eq_some_iff.mp e
        obtain ⟨rfl, rfl⟩ := r.inv
        rw [ih ns' e1]; rfl
      | _ => exact nos e) ns e
noncomputable def allF : List D → Option (R (D × Nat))
  | [.list ds] => match allB ds with
    | some ns => okB (ns.all id)
    | none => none
  | _ => none
theorem range_all (ns : List Bool) : (List.range ns.length).all (fun i => ns.getD i false) = ns.all id := by
  rw [Bool.eq_iff_iff, List.all_eq_true, List.all_eq_true]
  constructor
  · intro h x hx
    obtain ⟨i, hi, rfl⟩ := List.mem_iff_getElem.mp hx
    have := h i (List.mem_range.mpr hi)
    rw [List.getD_eq_getElem?_getD, List.getElem?_eq_getElem hi] at this; exact this
  · intro h i hi
    have hi := List.mem_range.mp hi
    rw [List.getD_eq_getElem?_getD, List.getElem?_eq_getElem hi]
    exact h _ (List.getElem_mem hi)
theorem op_all : OpN c hm n (fun vs => call (.builtin "all") vs) allF := by
  intro A l L m s vs ds fp r Q E hR hn nb hb rs hf hQ hE
  unfold allF at hf
  split at hf
  · rename_i es
    obtain ⟨va, rfl, ra⟩ := rs.inv1
    split at hf
    · rename_i ns hns
      obtain rfl := Option.some.inj hf
      obtain ⟨x, vx, f, hx, rx⟩ := listObj ra
      have h1 := allB_vals rx hns
      have hlen : vx.size = ns.length := by rw [← Array.length_toList, h1, List.length_map]
      refine wpAny_with_toks hb.2 (call_all_walk (wpAny_pyIter_list hx ?_))
      obtain ⟨fpw, W, hW, h0, hfp, _, hWI⟩ := walk_list (prog := c.prog) (w := c.w) (hm := hm) (A := A.in1) hR.hm.in1 hx
      refine ⟨_, fpw, _, _, _, _, fun i => ns.getD i false, rfl, hW, h0, fun i v s' Q' E' hv hq => ?_, fun h' tk hk ht => ?_⟩
      · have e : vx.toList[i]? = some v := by simpa using hv
        rw [h1, List.getElem?_map] at e
        obtain ⟨p, e1, rfl⟩ := Option.map_eq_some_iff.mp e
        have : ns.getD i false = p := by rw [List.getD_eq_getElem?_getD, e1]; rfl
        dsimp only at hq
        rw [this] at hq
        exact wpAny_truthy_bool hq
      · rw [hlen, range_all]
        refine flatQ hQ rfl (St.of_keeps hb _ _ (fun b o e => hk b o (fun q => ?_) (Heap.get?_push_of_some _ e)) ht) (.bool _)
        have := Heap.lt_size e
        rw [List.mem_singleton.mp q] at this; exact Nat.lt_irrefl _ this
    · exact nos hf
  · exact nos hf
noncomputable def intF : List D → Option (R (D × Nat))
  | [.bool b] => okI (if b then 1 else 0)
  | _ => none
theorem op_int : OpN c hm n (fun vs => call (.type "int") vs) intF := by
  intro A l L m s vs ds fp r Q E hR hn nb hb rs hf hQ hE
  unfold intF at hf
  split at hf
  · obtain ⟨va, rfl, ra⟩ := rs.inv1
    obtain rfl := Option.some.inj hf
    obtain ⟨rfl, rfl⟩ := ra.inv
    exact call_int_bool (flatQ hQ rfl (St.tok hb 1) (.int _ _))
  · exact nos hf
noncomputable def listCF : List D → Option (R (D × Nat))
  | [.list ds] => if ds.length ≤ lim then some (.ok (.list ds, lvOf ds)) else none
  | _ => none
theorem op_list : OpN c hm n (fun vs => call (.type "list") vs) listCF := by
  intro A l L m s vs ds fp r Q E hR hn nb hb rs hf hQ hE
  unfold listCF at hf
  split at hf
  · rename_i es
    obtain ⟨va, rfl, ra⟩ := rs.inv1
    split at hf
    · rename_i hlen
      obtain rfl := Option.some.inj hf
      obtain ⟨x, vx, f, ⟨o, ho, hc, k, hd⟩, rx⟩ := listObj ra
      have hsz : vx.size = es.length := by simpa using rx.length
      refine call_list_seq x (.inl rfl) ho hc hd (fun h' c' hk hD => ?_) (hsz := by rw [hsz]; unfold lim at hlen; unfold sizeLine; omega)
      have st : St c L s { s with heap := h' } := St.of_keeps hb h' s.toks hk hb.2
      refine hQ _ _ _ _ _ rfl st (.list hD rfl rfl (rx.keep fun b o e _ => hk b o e)) ?_ (lv_new rx (fresh_size _) (fresh_size _) ⟨_, _, _, hD, rfl, rfl⟩)
      intro q hq
      rcases List.mem_cons.mp hq with rfl | hq
      · exact .inl (fresh_size _)
      · exact .inr (List.mem_cons_of_mem _ hq)
    · exact nos hf
  · exact nos hf

-- the least and the greatest
noncomputable def maxL (ns : List Int) : Int := ns.foldl max (ns.headD 0)
noncomputable def minL (ns : List Int) : Int := ns.foldl min (ns.headD 0)
theorem argBest_le (bt : Nat → Nat → Bool) : ∀ k, argBest bt k ≤ k
  | 0 => Nat.le_refl _
  | k + 1 => by
    rw [argBest]
    split
    · exact Nat.le_refl _
    · exact Nat.le_succ_of_le (argBest_le bt k)
theorem argMax_fold (f : Nat → Int) : ∀ k, f (argBest (fun i j => decide (f i > f j)) k) = ((List.range (k + 1)).map f).foldl max (f 0)
  | 0 => by simp [argBest, List.range_succ]
  | k + 1 => by
    rw [List.range_succ, List.map_append, List.foldl_append, ← argMax_fold f k, argBest]
    simp only [List.map_cons, List.map_nil, List.foldl_cons, List.foldl_nil, decide_eq_true_eq]
    split <;> omega
theorem argMin_fold (f : Nat → Int) : ∀ k, f (argBest (fun i j => decide (f i < f j)) k) = ((List.range (k + 1)).map f).foldl min (f 0)
  | 0 => by simp [argBest, List.range_succ]
  | k + 1 => by
    rw [List.range_succ, List.map_append, List.foldl_append, ← argMin_fold f k, argBest]
    simp only [List.map_cons, List.map_nil, List.foldl_cons, List.foldl_nil, decide_eq_true_eq]
    split <;> omega
theorem num_range (xs : List (Int × Tok)) : (List.range xs.length).map (numAt xs.toArray) = xs.map (·.1) := by
  apply List.ext_getElem
  · simp
  · intro i h1 h2
    simp at h1 h2
    simp [numAt, h1]
noncomputable def maxF : List D → Option (R (D × Nat))
  | [.list ds] => match intsOf ds with
    | some ns => if ns ≠ [] then okI (maxL ns) else none
    | none => none
  | [.int a, .int b] => okI (max a b)
  | _ => none
noncomputable def minF : List D → Option (R (D × Nat))
  | [.list ds] => match intsOf ds with
    | some ns => if ns ≠ [] then okI (minL ns) else none
    | none => none
  | _ => none
theorem op_max : OpN c false n (fun vs => call (.builtin "max") vs) maxF := by
  intro A l L m s vs ds fp r Q E hR hn nb hb rs hf hQ hE
  unfold maxF at hf
  split at hf
  · rename_i es
    obtain ⟨va, rfl, ra⟩ := rs.inv1
    split at hf
    · rename_i ns hns
      split at hf
      · rename_i hne
        obtain rfl := Option.some.inj hf
        obtain ⟨x, vx, f, hx, rx⟩ := listObj ra
        obtain ⟨xs, h1, h2⟩ := intsOf_vals rx hns
        have hx' : s.heap.IsList x (intItems xs.toArray) := by
          have : intItems xs.toArray = vx := by
            apply Array.ext'
            rw [h1]; simp [intItems]
          rw [this]; exact hx
        have hpos : 0 < xs.length := by
          rw [← List.length_map (f := (·.1)), h2]
          exact List.length_pos_iff.mpr hne
        refine wpAny_with_toks hb.2 (max_intList hR.hm hx' (by simpa using hpos) fun v h' tk hv hk ht => ?_)
        have hle := argBest_le (fun i j => decide (numAt xs.toArray i > numAt xs.toArray j)) (xs.toArray.size - 1)
        have hfold := argMax_fold (numAt xs.toArray) (xs.toArray.size - 1)
        have hs1 : xs.toArray.size - 1 + 1 = xs.length := by simp; omega
        rw [hs1, num_range, h2] at hfold
        generalize argBest (fun i j => decide (numAt xs.toArray i > numAt xs.toArray j)) (xs.toArray.size - 1) = j at hv hle hfold
        have hj : j < xs.length := by simp at hle; omega
        have hval : v = .int xs[j].1 xs[j].2 := by
          simp [intItems, hj] at hv
          exact hv.symm
        have h0 : numAt xs.toArray 0 = ns.headD 0 := by
          cases xs with
          | nil => cases hpos
          | cons p xs => rw [← h2]; rfl
        have hnum : numAt xs.toArray j = xs[j].1 := by simp [numAt, hj]
        rw [h0, hnum] at hfold
        subst hval
        have : xs[j].1 = maxL ns := hfold
        rw [this]
        exact flatQ hQ rfl (St.of_keeps hb _ _ hk ht) (.int _ _)
      · exact nos hf
    · exact nos hf
  · rename_i a b
    obtain ⟨va, vb, fa, fb, ra, rb⟩ := rs.inv2
    obtain ⟨t0, rfl, rfl⟩ := ra.inv; obtain ⟨u0, rfl, rfl⟩ := rb.inv; obtain rfl := Option.some.inj hf
    refine wpAny_with_toks hb.2 (max_two_ints hR.hm fun h' tk hk ht => ?_)
    split
    · rename_i h
      have : max a b = b := by omega
      rw [this] at hQ
      exact flatQ hQ rfl (St.of_keeps hb _ _ hk ht) (.int _ _)
    · rename_i h
      have : max a b = a := by omega
      rw [this] at hQ
      exact flatQ hQ rfl (St.of_keeps hb _ _ hk ht) (.int _ _)
  · exact nos hf
theorem op_min : OpN c false n (fun vs => call (.builtin "min") vs) minF := by
  intro A l L m s vs ds fp r Q E hR hn nb hb rs hf hQ hE
  unfold minF at hf
  split at hf
  · rename_i es
    obtain ⟨va, rfl, ra⟩ := rs.inv1
    split at hf
    · rename_i ns hns
      split at hf
      · rename_i hne
        obtain rfl := Option.some.inj hf
        obtain ⟨x, vx, f, hx, rx⟩ := listObj ra
        obtain ⟨xs, h1, h2⟩ := intsOf_vals rx hns
        have hx' : s.heap.IsList x (intItems xs.toArray) := by
          have : intItems xs.toArray = vx := by
            apply Array.ext'
            rw [h1]; simp [intItems]
          rw [this]; exact hx
        have hpos : 0 < xs.length := by
          rw [← List.length_map (f := (·.1)), h2]
          exact List.length_pos_iff.mpr hne
        refine wpAny_with_toks hb.2 (min_intList hR.hm hx' (by simpa using hpos) fun v h' tk hv hk ht => ?_)
        have hle := argBest_le (fun i j => decide (numAt xs.toArray i < numAt xs.toArray j)) (xs.toArray.size - 1)
        have hfold := argMin_fold (numAt xs.toArray) (xs.toArray.size - 1)
        have hs1 : xs.toArray.size - 1 + 1 = xs.length := by simp; omega
        rw [hs1, num_range, h2] at hfold
        generalize argBest (fun i j => decide (numAt xs.toArray i < numAt xs.toArray j)) (xs.toArray.size - 1) = j at hv hle hfold
        have hj : j < xs.length := by simp at hle; omega
        have hval : v = .int xs[j].1 xs[j].2 := by
          simp [intItems, hj] at hv
          exact hv.symm
        have h0 : numAt xs.toArray 0 = ns.headD 0 := by
          cases xs with
          | nil => cases hpos
          | cons p xs => rw [← h2]; rfl
        have hnum : numAt xs.toArray j = xs[j].1 := by simp [numAt, hj]
        rw [h0, hnum] at hfold
        subst hval
        have : xs[j].1 = minL ns := hfold
        rw [this]
        exact flatQ hQ rfl (St.of_keeps hb _ _ hk ht) (.int _ _)
      · exact nos hf
    · exact nos hf
  · exact nos hf
end
end Mine
namespace Mine
open PySem PySem.Calls PyProof.Rows PySem.SeqAt PySem.W

theorem xs_of {p : Program} {loose : List Str} {mean : ExcName → Option Value} {mg mb : Str → Option Value} {s : Shared} {prog : Program} {w : World} {K : Frag} (T : Top p loose mean mg mb s.heap) (hK : K.In s.heap) (hc : excChk p K = true) (hv : notBound p loose "ValueError" = true) :
    Xs (cxOf prog w s mg mb) := by
  refine ⟨⟨K, hK, fun k hk => ?_⟩, glb_of T hv (by kernel_rfl)⟩
  have h1 := List.all_eq_true.mp hc k hk
  split at h1
  · rename_i C hC
    simp only [Bool.and_eq_true, beq_iff_eq, List.all_eq_true] at h1
    obtain ⟨⟨⟨h2, h3⟩, h4⟩, h5⟩ := h1
    have hb := mg_of hK T.g hC
    obtain ⟨C2, O, _⟩ := T.ownAt h3
    have : C2 = C := by have := O.bound; rw [hb] at this; cases this; rfl
    subst this
    refine ⟨C2, hb, h2, O, h4, fun k' hk' => ?_⟩
    have h6 := h5 k' hk'
    split at h6
    · rename_i C' hC'
      simp only [Bool.and_eq_true, beq_iff_eq, Bool.or_eq_true, bne_iff_ne, ne_eq] at h6
      refine ⟨C', mg_of hK T.g hC', h6.1, fun q => ?_⟩
      rcases h6.2 with w | w
      · exact absurd q w
      · exact w
    · cases h6
  · cases h1
end Mine
namespace Mine
open PySem

-- more pure lemmas
theorem le_lim {n : Nat} (h : n ≤ 2000) : n ≤ lim := Nat.le_trans h (by decide)
theorem le_big {n : Nat} (h : n ≤ 2000) : n ≤ big := Nat.le_trans h (by decide)
theorem le_lim6 {n : Nat} (h : n ≤ 1000000) : n ≤ lim := Nat.le_trans h (by decide)
theorem le_big6 {n : Nat} (h : n ≤ 1000000) : n ≤ big := Nat.le_trans h (by decide)
theorem modF_lit (a : Int) (n : Nat) [h : NeZero n] : modF [.int a, .int (no_index (OfNat.ofNat n))] = some (.ok (.int (a.fmod (OfNat.ofNat n)), 2)) := by
  have : ((OfNat.ofNat n : Int)) ≠ 0 := by
    intro e; exact h.out (by have : ((n : Nat) : Int) = 0 := e; omega)
  exact modF_int _ _ this
theorem divF_lit (a : Int) (n : Nat) [h : NeZero n] (h2 : n < 1073741824) : divF [.int a, .int (no_index (OfNat.ofNat n))] = some (.ok (.int (a.fdiv (OfNat.ofNat n)), 2)) := by
  have : ((OfNat.ofNat n : Int)) ≠ 0 := by
    intro e; exact h.out (by have : ((n : Nat) : Int) = 0 := e; omega)
  exact divF_int _ _ this (by show ((n : Nat) : Int).natAbs < _; omega)
theorem negF_int (a : Int) : negF [.int a] = some (.ok (.int (-a), 2)) := rfl
theorem notF_bool (a : Bool) : notF [.bool a] = some (.ok (.bool (!a), 2)) := rfl
theorem asIntR_int (a : Int) (lv : Nat) : asIntR (.int a, lv) = some (.ok (some a)) := rfl
theorem intF_bool (b : Bool) : intF [.bool b] = some (.ok (.int (if b then 1 else 0), 2)) := rfl
theorem maxF_two (a b : Int) : maxF [.int a, .int b] = some (.ok (.int (max a b), 2)) := rfl
theorem sumF_ints (ns : List Int) : sumF [.list (ns.map .int)] = some (.ok (.int ns.sum, 2)) := by simp only [sumF, intsOf_map]; rfl
theorem allF_bools (ns : List Bool) : allF [.list (ns.map .bool)] = some (.ok (.bool (ns.all id), 2)) := by simp only [allF, allB_map]; rfl
theorem listCF_list (xs : List D) (h : xs.length ≤ lim) : listCF [.list xs] = some (.ok (.list xs, lvOf xs)) := by simp only [listCF, h, if_true]
theorem methF_str (F : List D → Option (R (D × Nat))) (x : List Nat) (ds : List D) : methF F (.str x) (some (.ok ds)) = F (.str x :: ds) := rfl
theorem joinF_strs (sep : List Nat) (ts : List (List Nat)) (h : totalN sep ts ≤ lim) : joinF [.str sep, .list (ts.map .str)] = some (.ok (.str (joinN sep ts), 2)) := by
  simp only [joinF, strsOf_map, h, if_true]
theorem powF_10 (n : Nat) (h : n ≤ 1000) : powF [.int 10, .int (n : Int)] = some (.ok (.int (10 ^ n), 2)) := by
  simp only [powF]
  rw [if_pos ⟨by omega, by omega, Nat.lt_of_lt_of_le (show (10 : Int).natAbs < 2 ^ 4 by decide) (Nat.pow_le_pow_right (by decide) (by decide))⟩]
  rfl
theorem isF_int_none (a : Int) : isF [.int a, .none] = some (.ok (.bool false, 2)) := rfl
theorem isF_none_none : isF [.none, .none] = some (.ok (.bool true, 2)) := rfl
theorem isF_list_none (xs : List D) : isF [.list xs, .none] = some (.ok (.bool false, 2)) := rfl
theorem rngF_two (a b : Nat) (h : a ≤ b) (hb : b ≤ lim) : rngF [.int (a : Int), .int (b : Int)] = some (.ok ((List.range (b - a)).map fun (i : Nat) => .int ((a + i : Nat) : Int))) := by
  have h2 : (b : Int) ≤ 1000000000 := by unfold lim at hb; omega
  have h3 : ((b : Int) - a).toNat = b - a := by omega
  have hl : b - a ≤ lim := by omega
  simp only [rngF, rngU]
  rw [if_pos ⟨by omega, by omega, h2, by omega, by rw [h3]; exact hl⟩, h3]
  simp
theorem itemF_at {α : Type} (src : α → D) (l : List α) (i : Nat) (a : α) (h : l[i]? = some a) (hb : l.length ≤ big) : itemF [.list (l.map src), .int (i : Int)] = some (.ok (src a, 0)) :=
  itemF_list (by rw [List.getElem?_map, h]; rfl) (by rw [List.length_map]; exact hb)
theorem itemF_last (xs : List D) (d : D) (h : xs.getLast? = some d) (hb : xs.length ≤ big) : itemF [.list xs, .int (-1)] = some (.ok (d, 0)) := by
  have hne : xs ≠ [] := fun e => by subst e; cases h
  have hp : 0 < xs.length := List.length_pos_iff.mpr hne
  have e : idxD xs.length (-1) = some (xs.length - 1) := by
    unfold idxD
    rw [if_pos hb, if_neg (by decide), if_pos (by omega)]
    congr 1; omega
  have e2 : xs[xs.length - 1]? = some d := by rw [← h, List.getLast?_eq_getElem?]
  simp only [itemF, e, Option.bind_some, e2, Option.map_some]
theorem itemF_tup0 (a b : D) : itemF [.tup [a, b], .int 0] = some (.ok (a, 0)) := rfl
theorem itemF_tup1 (a b : D) : itemF [.tup [a, b], .int 1] = some (.ok (b, 0)) := rfl
theorem lenF_map {α : Type} (src : α → D) (l : List α) (h : l.length ≤ big) : lenF [.list (l.map src)] = some (.ok (.int l.length, 2)) := by
  rw [lenF_list _ (by rw [List.length_map]; exact h), List.length_map]
theorem itF_map {α : Type} (src : α → D) (l : List α) (lv : Nat) (h : l.length ≤ lim) : itF (.list (l.map src), lv) = some (.ok (l.map src)) := itF_list _ _ (by rw [List.length_map]; exact h)
theorem forF_of {occ : List Nat} {ix : Nat} {fI : G → Option (R (List D))} {fB : G → Option O} {Γ : G} {xs : List D} (h : fI Γ = some (.ok xs)) : forF occ ix fI fB Γ = loopF fB ix xs (dropL occ Γ) := by rw [forF, h]; rfl
/-- a comprehension over the image of a list -/
theorem compD_src {α : Type} (src : α → D) (g : α → D) {fE : G → Option (R (D × Nat))} {fC : G → Option (R Bool)} {cap : List Nat} {Γ : G} : ∀ (l : List α), (∀ a ∈ l, fC (compG cap Γ (src a)) = some (.ok true) ∧ ∃ lv, fE (compG cap Γ (src a)) = some (.ok (g a, lv))) →
    compD fE fC cap Γ (l.map src) = some (l.map g)
  | [], _ => rfl
  | x :: xs, h => by
    obtain ⟨h1, lv, h2⟩ := h x (List.mem_cons_self ..)
    rw [List.map_cons, compD, h1]; dsimp only; rw [h2]; dsimp only
    rw [compD_src src g xs fun y hy => h y (List.mem_cons_of_mem _ hy)]; rfl
theorem compF_src {α : Type} (src : α → D) (g : α → D) {fE : G → Option (R (D × Nat))} {cap : List Nat} {Γ : G} (l : List α) (h : ∀ a ∈ l, ∃ lv, fE (compG cap Γ (src a)) = some (.ok (g a, lv))) :
    compF fE (fun _ => some (.ok true)) cap Γ (l.map src) = some (.ok (.list (l.map g), lvOf (l.map g))) := compF_of (compD_src src g l fun a ha => ⟨rfl, h a ha⟩)
/-- a walk that folds -/
theorem loopF_fold {α σ : Type} {fB : G → Option O} {ix : Nat} (src : α → D) (st : σ → Option (D × Nat) → G) (step : σ → α → σ) (hst : ∀ s v w, (st s v).set ix w = st s w) :
    ∀ (l : List α) (s : σ) (v : Option (D × Nat)), (∀ l₁ a l₂, l = l₁ ++ a :: l₂ → ∃ w, fB (st (l₁.foldl step s) (some (src a, itemLv (src a)))) = some (.next (st (step (l₁.foldl step s) a) w))) →
    ∃ w, loopF fB ix (l.map src) (st s v) = some (.next (st (l.foldl step s) w))
  | [], s, v, _ => ⟨v, rfl⟩
  | a :: l, s, v, h => by
    obtain ⟨w1, e1⟩ := h [] a l rfl
    obtain ⟨w, e⟩ := loopF_fold src st step hst l (step s a) w1 fun l₁ b l₂ el => by
      obtain ⟨w, e⟩ := h (a :: l₁) b l₂ (by rw [el]; rfl)
      exact ⟨w, e⟩
    exact ⟨w, by rw [List.map_cons]; exact (loopF_next (by rw [hst]; exact e1)).trans e⟩
/-- a walk that seeks -/
theorem loopF_find {α : Type} {fB : G → Option O} {ix : Nat} (src : α → D) (st : Option (D × Nat) → G) (p : α → Bool) (g : α → D × Nat) (hst : ∀ v w, (st v).set ix w = st w) :
    ∀ (l : List α) (v : Option (D × Nat)), (∀ a ∈ l, (p a = true → fB (st (some (src a, itemLv (src a)))) = some (.ret (g a).1 (g a).2)) ∧ (p a = false → ∃ w, fB (st (some (src a, itemLv (src a)))) = some (.next (st w)))) →
    (l.find? p = none ∧ ∃ w, loopF fB ix (l.map src) (st v) = some (.next (st w))) ∨ ∃ a, l.find? p = some a ∧ loopF fB ix (l.map src) (st v) = some (.ret (g a).1 (g a).2)
  | [], v, _ => .inl ⟨rfl, v, rfl⟩
  | a :: l, v, h => by
    obtain ⟨h1, h2⟩ := h a (List.mem_cons_self ..)
    cases hp : p a with
    | true => exact .inr ⟨a, by rw [List.find?_cons, hp], by rw [List.map_cons]; exact loopF_ret (by rw [hst]; exact h1 hp)⟩
    | false =>
      obtain ⟨w1, e1⟩ := h2 hp
      have en : loopF fB ix ((a :: l).map src) (st v) = loopF fB ix (l.map src) (st w1) := by rw [List.map_cons]; exact loopF_next (by rw [hst]; exact e1)
      rcases loopF_find src st p g hst l w1 fun b hb => h b (List.mem_cons_of_mem _ hb) with ⟨h3, w, e⟩ | ⟨b, h3, e⟩
      · exact .inl ⟨by rw [List.find?_cons, hp]; exact h3, w, en.trans e⟩
      · exact .inr ⟨b, by rw [List.find?_cons, hp]; exact h3, en.trans e⟩
-- equal lists of ints
theorem eqs_ints : ∀ (a b : List Int), D.eqs (a.map .int) (b.map .int) = decide (a = b)
  | [], [] => by simp [D.eqs]
  | [], _ :: _ => by simp [D.eqs]
  | _ :: _, [] => by simp [D.eqs]
  | x :: a, y :: b => by
    rw [List.map_cons, List.map_cons, D.eqs, eqs_ints a b, D.eqb, Bool.eq_iff_iff]
    simp
theorem cmps_ints : ∀ (a b : List Int), D.cmps (a.map .int) (b.map .int) = true
  | [], [] => by simp [D.cmps]
  | [], _ :: _ => by simp [D.cmps]
  | _ :: _, [] => by simp [D.cmps]
  | x :: a, y :: b => by rw [List.map_cons, List.map_cons, D.cmps, cmps_ints a b]; rfl
theorem deps_ints : ∀ (a : List Int), D.deps (a.map .int) = 0
  | [] => rfl
  | x :: a => by rw [List.map_cons, D.deps, deps_ints a]; rfl
theorem eqF_ints (a b : List Int) : eqF [.list (a.map .int), .list (b.map .int)] = some (.ok (.bool (decide (a = b)), 2)) := by
  simp [eqF, D.cmpb, D.dep, D.eqb, okB, eqs_ints, cmps_ints, deps_ints]
theorem addF_maps {α : Type} (src : α → D) (a b : List α) (h : a.length + b.length ≤ lim) : addF [.list (a.map src), .list (b.map src)] = some (.ok (.list ((a ++ b).map src), lvOf ((a ++ b).map src))) := by
  rw [addF_list _ _ (by simpa using h), ← List.map_append]
theorem sliceF_map {α : Type} (src : α → D) (l : List α) (lo hi : Option Int) (h : l.length ≤ lim) : sliceF lo hi (.list (l.map src)) = some (.ok (.list ((sliceL l lo hi).map src), lvOf ((sliceL l lo hi).map src))) := by
  have e : sliceL (l.map src) lo hi = (sliceL l lo hi).map src := by simp [sliceL]
  rw [sliceF_list _ _ _ (by rw [List.length_map]; exact h), e]
-- sizes of joined texts
theorem joinN_len (sep : List Nat) : ∀ ts : List (List Nat), (joinN sep ts).length = (ts.map List.length).sum + (ts.length - 1) * sep.length
  | [] => by simp [joinN]
  | [x] => by simp [joinN]
  | x :: y :: r => by
    rw [joinN, List.length_append, List.length_append, joinN_len sep (y :: r)]
    simp only [List.map_cons, List.sum_cons, List.length_cons, Nat.add_sub_cancel]
    rw [Nat.add_mul]; omega
theorem natInt_sum (l : List Nat) : (l.map fun (n : Nat) => (n : Int)).sum = (l.sum : Nat) := by
  induction l with
  | nil => rfl
  | cons a l ih => simp only [List.map_cons, List.sum_cons, ih]; omega
theorem fmod_nat (a : Int) (n : Nat) (h : 0 < n) : ∃ k : Nat, k < n ∧ a.fmod (n : Int) = (k : Int) := by
  have h1 : 0 ≤ a.fmod (n : Int) := Int.fmod_nonneg_of_pos _ (by omega)
  have h2 : a.fmod (n : Int) < n := Int.fmod_lt_of_pos _ (by omega)
  exact ⟨(a.fmod n).toNat, by omega, by omega⟩
theorem appF_flat {occ : List Nat} {i : Nat} {f : G → Option (R (D × Nat))} {Γ : G} {xs : List D} {lv : Nat} {d : D} {lv' : Nat} (h1 : Γ[i]? = some (some (.list xs, lv))) (h2 : 1 ≤ lv) (h3 : xs.length ≤ lim) (h4 : f Γ = some (.ok (d, lv'))) (h5 : d.flat = true) :
    appF occ i f Γ = some (.next (Γ.set i (some (.list (xs ++ [d]), lv)))) := by
  unfold appF
  rw [h1]; dsimp only
  rw [if_pos ⟨h2, h3⟩, h4, bindE_ok]
  unfold appV
  rw [if_pos (by rw [h5]; rfl)]
theorem sliceL_len {α : Type} (l : List α) (lo hi : Option Int) : (sliceL l lo hi).length ≤ l.length := by
  unfold sliceL
  rw [List.length_take, List.length_drop]; omega
theorem listF_nil : listF [] = some (.ok (.list [], 2)) := rfl
theorem listF_int (a : Int) : listF [.int a] = some (.ok (.list [.int a], 2)) := rfl
theorem tupF_ints (a b : Int) : tupF [.int a, .int b] = some (.ok (.tup [.int a, .int b], 2)) := rfl
theorem addF_ints (a b : List Int) (h : a.length + b.length ≤ lim) : addF [.list (a.map .int), .list (b.map .int)] = some (.ok (.list ((a ++ b).map .int), 2)) := by
  rw [addF_maps _ _ _ h, lvOf_ints]
theorem addF_ints1 (a : List Int) (x : Int) (h : a.length + 1 ≤ lim) : addF [.list (a.map .int), .list [.int x]] = some (.ok (.list ((a ++ [x]).map .int), 2)) := addF_ints a [x] h
theorem sliceF_ints (l : List Int) (lo hi : Option Int) (h : l.length ≤ lim) : sliceF lo hi (.list (l.map .int)) = some (.ok (.list ((sliceL l lo hi).map .int), 2)) := by
  rw [sliceF_map _ _ _ _ h, lvOf_ints]
theorem sliceF_strs (l : List (List Nat)) (lo hi : Option Int) (h : l.length ≤ lim) : sliceF lo hi (.list (l.map .str)) = some (.ok (.list ((sliceL l lo hi).map .str), 2)) := by
  rw [sliceF_map _ _ _ _ h, lvOf_strs]
theorem eqF_strs_nil (a : List (List Nat)) : eqF [.list (a.map .str), .list []] = some (.ok (.bool (decide (a = [])), 2)) := eqF_strs a []
theorem eqF_ints_nil (a : List Int) : eqF [.list (a.map .int), .list []] = some (.ok (.bool (decide (a = [])), 2)) := eqF_ints a []
theorem getD_some {α : Type} {l : List α} {i : Nat} (d : α) (h : i < l.length) : l[i]? = some (l.getD i d) := by simp [List.getElem?_eq_getElem h]
theorem getElem?_getD_some {α : Type} {l : List α} (d : α) (h : l ≠ []) : l.getLast? = some (l.getLast?.getD d) := by
  rw [List.getLast?_eq_some_getLast h]; rfl
end Mine
namespace Mine
open PySem

-- plain things: words, sizes, starts
theorem joinN_ones : ∀ (l : List Nat), joinN [] (l.map fun k => [k]) = l
  | [] => rfl
  | [x] => rfl
  | x :: y :: r => by
    have := joinN_ones (y :: r)
    rw [List.map_cons, List.map_cons, joinN]
    rw [List.map_cons] at this
    rw [this]; simp
theorem total_ones (l : List Nat) : totalN [] (l.map fun k => [k]) = l.length := by
  have : ∀ l : List Nat, (l.map fun _ => 1).sum = l.length := fun l => by
    induction l with
    | nil => rfl
    | cons x l ih => rw [List.map_cons, List.sum_cons, ih, List.length_cons]; omega
  simp [totalN, Function.comp_def, this]
theorem mulOk_left (a b : Int) (h : a.natAbs < 18446744073709551616) : mulOk a b = true := by
  unfold mulOk
  have : a.natAbs < 2 ^ 64 := h
  rw [decide_eq_true this]; rfl
theorem mulOk_right (a b : Int) (h : b.natAbs < 18446744073709551616) : mulOk a b = true := by
  unfold mulOk
  have : b.natAbs < 2 ^ 64 := h
  rw [decide_eq_true this, Bool.or_true]; rfl
theorem mulF_str (s : List Nat) (k : Nat) (h : s.length * k ≤ lim) (hk : k < 1000000000) : mulF [.str s, .int (k : Int)] = some (.ok (.str (repL s (k : Int)), 2)) := by
  simp only [mulF]
  have h60 : (2 : Int) ^ 60 = 1152921504606846976 := by decide
  rw [if_pos ⟨by rw [h60]; omega, by rw [h60]; omega, by simpa using h⟩]
theorem repL_one (ch : Nat) (k : Nat) : repL [ch] (k : Int) = List.replicate k ch := by
  have : ∀ k : Nat, (List.replicate k [ch]).flatten = List.replicate k ch := fun k => by
    induction k with
    | zero => rfl
    | succ k ih => rw [List.replicate_succ, List.flatten_cons, ih, List.replicate_succ]; rfl
  simp [repL]
noncomputable def longest (ws : List (List Nat)) : Nat := ws.foldl (fun m w => max m w.length) 0
noncomputable def sz (ws : List (List Nat)) (b e : Nat) : Nat := (((ws.drop b).take (e - b)).map List.length).sum + (e - b - 1)
theorem drop_take_range (ws : List (List Nat)) (b e : Nat) (he : e ≤ ws.length) : (List.range (e - b)).map (fun i => ws.getD (b + i) []) = (ws.drop b).take (e - b) := by
  apply List.ext_getElem
  · simp; omega
  · intro i h1 h2
    simp at h1 h2
    simp [List.getElem?_eq_getElem (show b + i < ws.length by omega)]
noncomputable def longAt (ws : List (List Nat)) (w : Int) : Option Nat := (List.range ws.length).find? fun i => decide (w < ((ws.getD i []).length : Int))
noncomputable def natD : Option Nat → D
  | none => .none
  | some k => .int (k : Int)
noncomputable def descAt (ss : List Int) : Option Nat := (List.range (ss.length - 1)).find? fun i => decide (ss.getD (1 + i) 0 ≤ ss.getD i 0)
noncomputable def goodS (ss : List Int) (n : Nat) : Bool := if ss = [] then n == 0 else (ss.getD 0 0 == 0) && decide (ss.getLast?.getD 0 < (n : Int)) && (descAt ss).isNone
theorem descAt_none {ss : List Int} (h : descAt ss = none) : ∀ i, i + 1 < ss.length → ss.getD i 0 < ss.getD (i + 1) 0 := by
  intro i hi
  have := List.find?_eq_none.mp h i (List.mem_range.mpr (by omega))
  rw [Nat.add_comm 1 i] at this
  simpa using this
theorem asc_le {ss : List Int} (h : descAt ss = none) : ∀ i, i < ss.length → ss.getD 0 0 ≤ ss.getD i 0
  | 0, _ => Int.le_refl _
  | i + 1, hi => Int.le_trans (asc_le h i (by omega)) (Int.le_of_lt (descAt_none h i hi))
theorem goodS_zero {ss : List Int} (h : ss ≠ []) : goodS ss 0 = false := by
  have hp : 0 < ss.length := List.length_pos_iff.mpr h
  unfold goodS
  rw [if_neg h]
  cases hd : descAt ss with
  | some i => simp
  | none =>
    have h1 := asc_le hd (ss.length - 1) (by omega)
    have h2 : ss.getLast?.getD 0 = ss.getD (ss.length - 1) 0 := by rw [List.getLast?_eq_getElem?]; rfl
    rw [h2]
    cases h3 : (ss.getD 0 0 == 0)
    · simp
    · have h4 : ss.getD 0 0 = 0 := by simpa using h3
      have : ¬ (ss.getD (ss.length - 1) 0 < ((0 : Nat) : Int)) := by omega
      rw [decide_eq_false this]; rfl
noncomputable def endsS (ss : List Int) (n : Nat) : List Int := sliceL ss (some 1) none ++ [(n : Int)]
theorem endsS_len {ss : List Int} {n : Nat} : (endsS ss n).length = (ss.length - 1) + 1 := by
  have : sliceL ss (some ((1 : Nat) : Int)) none = ss.drop 1 := sliceL_from ss 1
  unfold endsS
  rw [List.length_append, show sliceL ss (some 1) none = ss.drop 1 from this, List.length_drop]; rfl
noncomputable def linesS (ws : List (List Nat)) (ss : List Int) : List (List Nat) := (List.range ss.length).map fun k => joinN [32] (sliceL ws (some (ss.getD k 0)) (some ((endsS ss ws.length).getD k 0)))
noncomputable def szI (ws : List (List Nat)) (b e : Int) : Nat := (joinN [32] (sliceL ws (some b) (some e))).length
theorem szI_nat {ws : List (List Nat)} {b e : Nat} (hbe : b ≤ e) (he : e ≤ ws.length) : szI ws (b : Int) (e : Int) = sz ws b e := by
  have hlen : ((ws.drop b).take (e - b)).length = e - b := by rw [List.length_take, List.length_drop]; omega
  unfold szI
  rw [sliceL_mid, joinN_len, hlen]; simp [sz]
noncomputable def endsI (ss : List Int) (n : Nat) : List Int := sliceL ss (some 1) none ++ [(n : Int)]
theorem endsI_eq (ss : List Int) (n : Nat) : endsI ss n = ss.drop 1 ++ [(n : Int)] := by
  have : sliceL ss (some ((1 : Nat) : Int)) none = ss.drop 1 := sliceL_from ss 1
  unfold endsI
  rw [show sliceL ss (some 1) none = ss.drop 1 from this]
theorem endsI_len {ss : List Int} {n : Nat} : (endsI ss n).length = (ss.length - 1) + 1 := by
  rw [endsI_eq, List.length_append, List.length_drop]; rfl
theorem endsI_getD {ss : List Int} {n k : Nat} (h : k < ss.length) : (endsI ss n).getD k 0 = if k + 1 < ss.length then ss.getD (k + 1) 0 else (n : Int) := by
  rw [endsI_eq]
  by_cases h2 : k + 1 < ss.length
  · rw [if_pos h2]
    simp only [List.getD_eq_getElem?_getD]
    rw [List.getElem?_append_left (by rw [List.length_drop]; omega), List.getElem?_drop, Nat.add_comm 1 k]
  · rw [if_neg h2]
    simp only [List.getD_eq_getElem?_getD]
    rw [List.getElem?_append_right (by rw [List.length_drop]; omega), List.length_drop, show k - (ss.length - 1) = 0 by omega]; rfl
theorem ends_same (ss : List Int) (n : Nat) : endsS ss n = endsI ss n := rfl
theorem sliceL_but {α : Type} (l : List α) : sliceL l none (some (-1)) = l.dropLast := by
  have h := clipAt_cast l.length (-1)
  rw [if_pos (by decide)] at h
  have h2 : clipAt l.length (-1) = l.length - 1 := by omega
  simp only [sliceL, Option.elim_some, Option.elim_none, h2, List.drop_zero, Nat.sub_zero]
  rw [List.dropLast_eq_take]
end Mine
namespace Mine
open PySem

-- sums of sizes, breaks into lines
noncomputable def pre (ws : List (List Nat)) (k : Nat) : Nat := ((ws.take k).map List.length).sum
theorem pre_add (ws : List (List Nat)) (b i : Nat) : pre ws (b + i) = pre ws b + (((ws.drop b).take i).map List.length).sum := by
  unfold pre; rw [List.take_add, List.map_append, List.sum_append_nat]
theorem pre_mono (ws : List (List Nat)) {a b : Nat} (h : a ≤ b) : pre ws a ≤ pre ws b := by
  rw [show b = a + (b - a) by omega, pre_add]; omega
theorem sz_pre (ws : List (List Nat)) {b e : Nat} (h : b ≤ e) : sz ws b e + pre ws b = pre ws e + (e - b - 1) := by
  have := pre_add ws b (e - b)
  rw [show b + (e - b) = e by omega] at this
  unfold sz; omega
theorem pre_succ (ws : List (List Nat)) {k : Nat} (h : k < ws.length) : pre ws (k + 1) = pre ws k + (ws.getD k []).length := by
  rw [pre_add]
  have : (ws.drop k).take 1 = [ws.getD k []] := by
    rw [List.drop_eq_getElem_cons h, List.take_succ_cons, List.take_zero, List.getD_eq_getElem?_getD, List.getElem?_eq_getElem h]; rfl
  rw [this]; simp
theorem sz_mono (ws : List (List Nat)) {b b' e' e : Nat} (h1 : b ≤ b') (h2 : b' ≤ e') (h3 : e' ≤ e) : sz ws b' e' ≤ sz ws b e := by
  have a1 := sz_pre ws h2
  have a2 := sz_pre ws (show b ≤ e by omega)
  have a3 := pre_mono ws h1
  have a4 := pre_mono ws h3
  have a5 := pre_mono ws h2
  omega
theorem sz_one (ws : List (List Nat)) {k : Nat} (h : k < ws.length) : sz ws k (k + 1) = (ws.getD k []).length := by
  have a1 := sz_pre ws (show k ≤ k + 1 by omega)
  have a2 := pre_succ ws h
  omega
theorem sz_succ (ws : List (List Nat)) {b e : Nat} (h : b < e) (he : e < ws.length) : sz ws b (e + 1) = sz ws b e + 1 + (ws.getD e []).length := by
  have a1 := sz_pre ws (show b ≤ e + 1 by omega)
  have a2 := sz_pre ws (show b ≤ e by omega)
  have a3 := pre_succ ws he
  have a4 := pre_mono ws (show b ≤ e by omega)
  omega
noncomputable def nx (fs : List Nat) (m k : Nat) : Nat := if k + 1 < fs.length then fs.getD (k + 1) 0 else m
/-- starts of lines that fit, of the first m words -/
noncomputable def VS (ws : List (List Nat)) (w : Int) (fs : List Nat) (m : Nat) : Prop :=
  fs.length ≤ m ∧ ((m = 0 ∧ fs = []) ∨ (fs ≠ [] ∧ fs.getD 0 0 = 0 ∧ ∀ k, k < fs.length → fs.getD k 0 < nx fs m k ∧ nx fs m k ≤ m ∧ (sz ws (fs.getD k 0) (nx fs m k) : Int) ≤ w))
theorem getD_snoc (fs : List Nat) (a k : Nat) (h : k ≤ fs.length) : (fs ++ [a]).getD k 0 = if k < fs.length then fs.getD k 0 else a := by
  by_cases h2 : k < fs.length
  · rw [if_pos h2]
    simp only [List.getD_eq_getElem?_getD]
    rw [List.getElem?_append_left h2]
  · rw [if_neg h2, show k = fs.length by omega]; simp
theorem nx_snoc (fs : List Nat) (a e k : Nat) (h : k ≤ fs.length) : nx (fs ++ [a]) e k = if k < fs.length then nx fs a k else e := by
  unfold nx
  rw [List.length_append]
  simp only [List.length_cons, List.length_nil]
  by_cases h2 : k < fs.length
  · rw [if_pos h2, if_pos (by omega), getD_snoc _ _ _ (by omega)]
  · rw [if_neg h2, if_neg (by omega)]
theorem VS.snoc {ws : List (List Nat)} {w : Int} {fs : List Nat} {a e : Nat} (h : VS ws w fs a) (h1 : a < e) (h2 : (sz ws a e : Int) ≤ w) : VS ws w (fs ++ [a]) e := by
  obtain ⟨hl, h⟩ := h
  refine ⟨by simp; omega, .inr ⟨by simp, ?_, ?_⟩⟩
  · rw [getD_snoc _ _ _ (by omega)]
    rcases h with ⟨h3, h4⟩ | ⟨h3, h4, _⟩
    · subst h4; simp [h3]
    · rw [if_pos (List.length_pos_iff.mpr h3)]; exact h4
  · intro k hk
    rw [List.length_append] at hk
    simp only [List.length_cons, List.length_nil] at hk
    rw [getD_snoc _ _ _ (by omega), nx_snoc _ _ _ _ (by omega)]
    by_cases h5 : k < fs.length
    · rw [if_pos h5, if_pos h5]
      rcases h with ⟨h3, h4⟩ | ⟨h3, h4, h6⟩
      · subst h4; simp at h5
      · have := h6 k h5; exact ⟨this.1, by omega, this.2.2⟩
    · rw [if_neg h5, if_neg h5]
      exact ⟨h1, by omega, h2⟩
/-- numbers not below nought as ints -/
noncomputable def nz (fs : List Nat) : List Int := fs.map fun (k : Nat) => (k : Int)
theorem nz_len (fs : List Nat) : (nz fs).length = fs.length := List.length_map ..
theorem nz_getD (fs : List Nat) (k : Nat) : (nz fs).getD k 0 = (fs.getD k 0 : Nat) := by
  unfold nz
  simp only [List.getD_eq_getElem?_getD, List.getElem?_map]
  cases fs[k]? <;> rfl
theorem nz_snoc (fs : List Nat) (a : Nat) : (nz fs).map D.int ++ [.int (a : Int)] = (nz (fs ++ [a])).map .int := by simp [nz]
theorem nz_nil {fs : List Nat} : nz fs = [] ↔ fs = [] := by simp [nz]
theorem nz_ends {fs : List Nat} {m k : Nat} (h : k < fs.length) : (endsI (nz fs) m).getD k 0 = (nx fs m k : Nat) := by
  rw [endsI_getD (by rw [nz_len]; exact h), nz_len, nz_getD]
  unfold nx
  split <;> rfl
/-- what the laws call starts -/
noncomputable def validS (ws : List (List Nat)) (w : Int) (ss : List Int) : Prop := (ss = [] ∧ ws = []) ∨ (ss ≠ [] ∧ ss.getD 0 0 = 0 ∧ ∀ k, k < ss.length → ss.getD k 0 < (endsI ss ws.length).getD k 0 ∧ (szI ws (ss.getD k 0) ((endsI ss ws.length).getD k 0) : Int) ≤ w)
theorem VS.valid {ws : List (List Nat)} {w : Int} {fs : List Nat} (h : VS ws w fs ws.length) : validS ws w (nz fs) := by
  rcases h.2 with ⟨h1, h2⟩ | ⟨h1, h2, h3⟩
  · exact .inl ⟨nz_nil.mpr h2, List.length_eq_zero_iff.mp h1⟩
  · refine .inr ⟨fun e => h1 (nz_nil.mp e), by rw [nz_getD, h2]; rfl, fun k hk => ?_⟩
    rw [nz_len] at hk
    have := h3 k hk
    rw [nz_getD, nz_ends hk, szI_nat (by omega) this.2.1]
    exact ⟨by omega, this.2.2⟩
theorem longest_le (ws : List (List Nat)) (w : Int) (h0 : 0 ≤ w) : ((longest ws : Nat) : Int) ≤ w ↔ ∀ x ∈ ws, (x.length : Int) ≤ w := by
  have : ∀ (l : List (List Nat)) (t : Nat), ((l.foldl (fun m x => max m x.length) t : Nat) : Int) ≤ w ↔ (t : Int) ≤ w ∧ ∀ x ∈ l, (x.length : Int) ≤ w := by
    intro l
    induction l with
    | nil => intro t; simp
    | cons y l ih =>
      intro t
      rw [List.foldl_cons, ih]
      simp only [List.mem_cons, forall_eq_or_imp]
      constructor
      · rintro ⟨a, b⟩; exact ⟨by omega, by omega, b⟩
      · rintro ⟨a, b, c⟩; exact ⟨by omega, c⟩
  unfold longest
  rw [this]
  exact ⟨fun a => a.2, fun a => ⟨by omega, a⟩⟩
theorem longAt_none {ws : List (List Nat)} {w : Int} : longAt ws w = none ↔ ∀ x ∈ ws, (x.length : Int) ≤ w := by
  unfold longAt
  rw [List.find?_eq_none]
  constructor
  · intro h x hx
    obtain ⟨i, hi, e⟩ := List.mem_iff_getElem.mp hx
    have := h i (List.mem_range.mpr hi)
    rw [List.getD_eq_getElem?_getD, List.getElem?_eq_getElem hi, e] at this
    simpa using this
  · intro h i hi
    have hi := List.mem_range.mp hi
    have := h _ (List.mem_of_getElem? (getD_some [] hi))
    simpa using this
theorem isnF_int_none (a : Int) : isnF [.int a, .none] = some (.ok (.bool true, 2)) := rfl
theorem isnF_none_none : isnF [.none, .none] = some (.ok (.bool false, 2)) := rfl
end Mine
namespace Mine
open PySem

/-- a walk over a range whose frame is known at each step -/
theorem loopF_range' {fB : G → Option O} {ix : Nat} (src : Nat → D) (st : Nat → Option (D × Nat) → G) (hst : ∀ i v w, (st i v).set ix w = st i w) :
    ∀ (n s : Nat) (v : Option (D × Nat)), (∀ i, s ≤ i → i < s + n → ∃ w, fB (st i (some (src i, itemLv (src i)))) = some (.next (st (i + 1) w))) →
    ∃ w, loopF fB ix ((List.range' s n).map src) (st s v) = some (.next (st (s + n) w))
  | 0, s, v, _ => ⟨v, rfl⟩
  | n + 1, s, v, h => by
    obtain ⟨w1, e1⟩ := h s (Nat.le_refl _) (by omega)
    obtain ⟨w, e⟩ := loopF_range' src st hst n (s + 1) w1 fun i h1 h2 => h i (by omega) (by omega)
    rw [show s + 1 + n = s + (n + 1) by omega] at e
    exact ⟨w, by rw [List.range'_succ, List.map_cons]; exact (loopF_next (by rw [hst]; exact e1)).trans e⟩
theorem loopF_range {fB : G → Option O} {ix : Nat} (src : Nat → D) (st : Nat → Option (D × Nat) → G) (hst : ∀ i v w, (st i v).set ix w = st i w) (n : Nat) (v : Option (D × Nat))
    (h : ∀ i, i < n → ∃ w, fB (st i (some (src i, itemLv (src i)))) = some (.next (st (i + 1) w))) :
    ∃ w, loopF fB ix ((List.range n).map src) (st 0 v) = some (.next (st n w)) := by
  have := loopF_range' src st hst n 0 v fun i _ h2 => h i (by omega)
  rw [Nat.zero_add, ← List.range_eq_range'] at this
  exact this
-- a line spread to a width
noncomputable def gapB (B d a : Nat) : Nat := B / d + if a ≤ B % d then 1 else 0
theorem gap_div {B d a : Nat} (h1 : 1 ≤ a) (h2 : a ≤ d) : (B + (d - a)) / d = gapB B d a := by
  have hd : 0 < d := by omega
  have hB := Nat.div_add_mod B d
  have hr := Nat.mod_lt B hd
  unfold gapB
  generalize B / d = q at *
  generalize B % d = r at *
  subst hB
  rw [Nat.add_assoc, Nat.mul_add_div hd]
  by_cases h : a ≤ r
  · rw [if_pos h, Nat.div_eq_of_lt_le (k := 1) (by omega) (by omega)]
  · rw [if_neg h, Nat.div_eq_of_lt (by omega)]
noncomputable def spl (ws : List (List Nat)) (B : Nat) : Nat → List Nat
  | 0 => ws.getD 0 []
  | j + 1 => spl ws B j ++ List.replicate (gapB B (ws.length - 1) (j + 1)) 32 ++ ws.getD (j + 1) []
theorem spl_len (ws : List (List Nat)) (B : Nat) : ∀ j, j < ws.length → (spl ws B j).length = pre ws (j + 1) + (B / (ws.length - 1)) * j + min j (B % (ws.length - 1))
  | 0, h => by
    have := pre_succ ws h
    have h0 : pre ws 0 = 0 := by simp [pre]
    rw [spl]; omega
  | j + 1, h => by
    have ih := spl_len ws B j (by omega)
    have := pre_succ ws h
    rw [spl, List.length_append, List.length_append, List.length_replicate, ih, this, Nat.mul_add]
    unfold gapB
    split <;> omega
theorem spl_le {ws : List (List Nat)} {B : Nat} {j : Nat} (h : j < ws.length) : (spl ws B j).length ≤ pre ws ws.length + B := by
  rw [spl_len ws B j h]
  have h1 := pre_mono ws (show j + 1 ≤ ws.length by omega)
  by_cases hd : ws.length - 1 = 0
  · rw [hd]
    have : j = 0 := by omega
    subst this; omega
  · have hB := Nat.div_add_mod B (ws.length - 1)
    have h2 : B / (ws.length - 1) * j ≤ (ws.length - 1) * (B / (ws.length - 1)) := by
      rw [Nat.mul_comm]; exact Nat.mul_le_mul_right _ (by omega)
    omega
theorem gap_le (B d a : Nat) : gapB B d a ≤ B + 1 := by
  have := Nat.div_le_self B d
  unfold gapB
  split <;> omega
theorem spl_gap_le {ws : List (List Nat)} {B : Nat} {j : Nat} (h : j + 1 < ws.length) : (spl ws B j ++ List.replicate (gapB B (ws.length - 1) (j + 1)) 32).length ≤ pre ws ws.length + B := by
  have := spl_le (B := B) h
  rw [spl, List.length_append] at this
  omega
theorem pre_all (ws : List (List Nat)) : pre ws ws.length = (ws.map List.length).sum := by unfold pre; rw [List.take_length]
theorem fdiv_nat (a b : Nat) : (a : Int).fdiv (b : Int) = ((a / b : Nat) : Int) := by
  rw [Int.fdiv_eq_ediv_of_nonneg _ (by omega)]; rfl
noncomputable def spreadT (ws : List (List Nat)) (w : Nat) : List Nat := if ws = [] then [] else spl ws (w - pre ws ws.length) (ws.length - 1)
theorem spreadT_small {ws : List (List Nat)} (w : Nat) (h : ws.length < 2) : spreadT ws w = joinN [] ws := by
  rcases ws with _ | ⟨x, _ | ⟨y, r⟩⟩
  · rfl
  · rfl
  · simp at h; omega
theorem sz_all (ws : List (List Nat)) : sz ws 0 ws.length = pre ws ws.length + (ws.length - 1) := by
  have := sz_pre ws (Nat.zero_le ws.length)
  have h0 : pre ws 0 = 0 := by simp [pre]
  omega
end Mine
namespace Mine
open PySem PySem.Calls PyProof.Rows PySem.SeqAt

theorem list_setItem {prog : Program} {w : World} {A : Around} {E : Value → Shared → Prop} {s : Shared} {l : Addr} {items : Array Value} {k : Int} {t : Tok} {v : Value} {Q : Unit → Shared → Prop} (hl : s.heap.IsList l items) (hnd : Nd s.heap l)
    (h0 : 0 ≤ k) (hfit : k < 2 ^ 63) (hn : k < items.size)
    (hQ : ∀ h', h'.IsList l (items.setIfInBounds k.toNat v) → Nd h' l → Heap.SameBut l s.heap h' → Q () { s with heap := h' }) :
    wpAny (model prog w) A (setItem (.ref l) (.int k t) v) Q E s := by
  obtain ⟨o, ho, hc, ne, hd⟩ := id hl
  obtain ⟨o', vs, k', ho', hd0, hdn⟩ := hnd
  rw [ho] at ho'; obtain rfl := Option.some.inj ho'
  unfold setItem
  try with_reducible refine wpAny_holding ?_
  first | refine wpAny_bind (wpAny_pure ?_) | skip
  refine wpAny_bind (wpAny_sequenceKey hl.typeIs (by decide) ?_)
  refine wpAny_bind (wpAny_callSpecial?_slot (name := Str.ofString "__setitem__") hl.typeIs slot_list_setitem
    (wpAny_call_entry slot_list_setitem hl.typeIs entry_list_setitem ?_ (args_list_setitem _ _ _)))
  show wpAny _ _ (Builtin.List.listSubscript? (.int k t) >>= _) _ _ s
  refine wpAny_bind (wpAny_listSubscript_int (fitsIndex_of h0 hfit) ?_)
  clear hfit
  obtain ⟨j, rfl⟩ := Int.eq_ofNat_of_zero_le h0
  have hj : j < items.size := by omega
  have hx' : items[j]? = some items[j] := Array.getElem?_eq_getElem hj
  show wpAny _ _ ((seqItemAt l j >>= fun r => pure (r.map (j, ·))) >>= _) _ _ s
  refine wpAny_bind (wpAny_bind (wpAny_seqItemAt ho hd (wpAny_pure ?_)))
  rw [hx']
  show wpAny _ _ (setSeqItemAt l j v >>= _) _ _ s
  obtain ⟨n', hd'⟩ := Obj.data_mapSeq hd (·.setIfInBounds j v)
  have hg := Heap.get?_update_self (h := s.heap) (Obj.mapSeq (·.setIfInBounds j v)) ho (Obj.isFreed_of_seq hd')
  have hfin : (s.heap.update l (Obj.mapSeq (·.setIfInBounds j v))).IsList l (items.setIfInBounds j v) :=
    ⟨_, hg, (Obj.cls_mapSeq ..).trans hc, n', hd'⟩
  have hnd' : Nd (s.heap.update l (Obj.mapSeq (·.setIfInBounds j v))) l := by
    refine ⟨_, _, n', hg, hd', ?_⟩
    obtain ⟨a, b, d, e⟩ := o
    dsimp only at hd hdn
    subst hd; subst hdn
    rfl
  refine wpAny_bind (wpAny_setSeqItemAt ho hd ?_)
  first
    | exact wpAny_bind (wpAny_pure (wpAny_pure ⟨.none, rfl, wpAny_pure (hQ _ hfin hnd' (Heap.SameBut.update ..))⟩))
    | exact wpAny_pure ⟨.none, rfl, wpAny_pure (hQ _ hfin hnd' (Heap.SameBut.update ..))⟩

theorem Rps.set {X : Str → Option Value} {h : Heap} {v : Value} {d : D} (r : Rp X h v d []) {vs ds f} (i : Nat) (rs : Rps X h vs ds f) : ∃ g, Rps X h (vs.set i v) (ds.set i d) g ∧ g.Sublist f :=
  rs.ind (Ps := fun vs ds f => ∀ i : Nat, ∃ g, Rps X h (vs.set i v) (ds.set i d) g ∧ g.Sublist f) (fun _ => ⟨[], .nil, List.Sublist.refl _⟩)
    (fun r0 rs ih i => match i with
      | 0 => ⟨_, .cons r rs, List.sublist_append_right ..⟩
      | i + 1 => let ⟨_, h1, h2⟩ := ih i; ⟨_, .cons r0 h1, List.Sublist.append (List.Sublist.refl _) h2⟩) i

noncomputable def setK (i : Nat) (xs : List D) (lv : Nat) (a : D × Nat) (b : D × Nat) (Γ : G) : Option O := match b.1 with
  | .int k => if a.1.flat = true ∧ 0 ≤ k ∧ k < xs.length then some (.next (Γ.set i (some (.list (xs.set k.toNat a.1), lv)))) else none
  | _ => none
/-- x[k] = v, a flat v -/
noncomputable def setF (_occ : List Nat) (i : Nat) (f g : G → Option (R (D × Nat))) (Γ : G) : Option O :=
  match Γ[i]? with
  | some (some (.list xs, lv)) => if 1 ≤ lv ∧ xs.length ≤ lim then bindE (f Γ) Γ fun a => bindE (g Γ) Γ fun b => setK i xs lv a b Γ else none
  | _ => none

section
variable {c : Cx} {hm : Bool} {n : Nat} {sc : Scope} {nm : List Str} {h₀ : Heap} {f₀ : List Addr} {env : Env} {Γ Γ' Γ'' : G} {vf vf' vf'' : Nat → Value × List Addr} {s s' s'' : Shared}

theorem denS_setitem {x : Str} {e ie : Expr} {px spos pos : Pos} {occ occ2 : List Nat} {f g : G → Option (R (D × Nat))} (i : Nat) (h : Den c hm n sc nm e occ f) (h2 : Den c hm n sc nm ie occ2 g) (hx : nm[i]? = some x := by rfl)
    (hs : ∀ env : Env, env.scope = sc → swapsWith e (some (.Subscript (.Name x px) ie spos)) pos.line env = pure false := by intro _ _; rfl) :
    DenS c hm n sc nm (.Assign [.Subscript (.Name x px) ie spos] e pos) (setF occ i f g) := by
  intro A l env h₀ f₀ Γ vf s r Q E hsF hR iv hf hQ hE
  have hsc := hsF.1
  obtain ⟨m, hn⟩ := iv.rd.ns
  unfold setF at hf
  split at hf
  · rename_i xs lv hgi
    split at hf
    · rename_i hc
      obtain ⟨h1, hlen⟩ := hc
      refine wpAny_Assign_Subscript (h.runS hsc hR iv hf (fun d ld _ hg v fp s₁ st rp tr lvl => ?_) hE) (hs env hsc)
      have iv₁ := iv.keep st
      have sp := iv.step st
      obtain ⟨a, t, vs, x', e1, e2, hl, hnd, hrs, e3, hb, hat, haj⟩ := iv₁.lst hgi h1
      rw [hx] at e3; obtain rfl := Option.some.inj e3
      refine load_bd iv₁.rd.fn hb ?_
      refine h2.runS hsc (sp.room iv hR) iv₁ hg (fun d2 ld2 _ hg2 v2 fp2 s₂ st2 rp2 tr2 lvl2 => ?_) (fun x s' q => hE x s' (q.back sp))
      unfold setK at hg2
      dsimp only at hg2
      split at hg2
      · rename_i k _
        split at hg2
        · rename_i hc
          obtain ⟨hfl, hk0, hk1⟩ := hc
          obtain rfl := Option.some.inj hg2
          obtain ⟨tk, rfl, rfl⟩ := rp2.inv
          have hfp := rp.flat_fp hfl
          subst hfp
          have hn₁ := st.kp.ns m hn
          have hl₂ := IsList.st st2 hn₁ hl
          have hrs₂ := st2.kp.rps hn₁ hrs
          have hsz : vs.size = xs.length := by simpa using hrs.length
          obtain ⟨t', hr', hsub⟩ := Rps.set (st2.kp.rp hn₁ rp) k.toNat hrs₂
          have hlim : (xs.length : Int) ≤ 10000000 := by unfold lim at hlen; omega
          refine list_setItem hl₂ (hnd.keep st2.kp hn₁) hk0 (by omega) (by rw [hsz]; exact hk1) (fun h' hl' hnd' hs' => ?_)
          have hmem : ∀ b ∈ t', b ∈ t := fun b hb => hsub.subset hb
          refine hQ _ _ ⟨_, sp.trans (mutate (occ := []) (lv' := lv) (t' := t') iv₁ st2 hgi h1 e2 hs' hl' hnd' (by rw [Array.toList_setIfInBounds]; exact hr') (fun q => hat (hmem a q)) (fun b hb => .inl (hmem b hb)) (fun _ _ l e => ⟨l, Nat.le_refl _, e⟩) (Nat.le_refl _) (.inl fun b hb => .inl (hmem b hb)) ?_)⟩
          intro q
          refine ⟨?_, fun b hb => .inl (hmem b hb)⟩
          have := (iv₁.own2 i _ lv hgi q).2
          rw [e2] at this
          exact (List.nodup_cons.mp this).2.sublist hsub
        · exact nos hg2
      · exact nos hg2
    · exact nos hf
  · exact nos hf
end
end Mine
namespace Mine
open PySem

-- how many from s on, m at most
noncomputable def fitP (p : Nat → Bool) : Nat → Nat → Nat
  | _, 0 => 0
  | s, m + 1 => if p s then fitP p (s + 1) m + 1 else 0
theorem fitP_le (p : Nat → Bool) : ∀ s m, fitP p s m ≤ m
  | _, 0 => Nat.le_refl _
  | s, m + 1 => by
    rw [fitP]
    have := fitP_le p (s + 1) m
    split <;> omega
theorem fitP_in {p : Nat → Bool} : ∀ {s m i}, i < fitP p s m → p (s + i) = true
  | _, 0, _, h => absurd h (by simp [fitP])
  | s, m + 1, i, h => by
    rw [fitP] at h
    by_cases hp : p s = true
    · rw [if_pos hp] at h
      cases i with
      | zero => exact hp
      | succ i => have := fitP_in (p := p) (s := s + 1) (m := m) (i := i) (by omega); rw [show s + (i + 1) = s + 1 + i by omega]; exact this
    · rw [if_neg hp] at h; omega
theorem fitP_out {p : Nat → Bool} : ∀ {s m}, fitP p s m < m → p (s + fitP p s m) = false
  | _, 0, h => absurd h (by omega)
  | s, m + 1, h => by
    rw [fitP] at h ⊢
    by_cases hp : p s = true
    · rw [if_pos hp] at h ⊢
      have := fitP_out (p := p) (s := s + 1) (m := m) (by omega)
      rw [show s + (fitP p (s + 1) m + 1) = s + 1 + fitP p (s + 1) m by omega]; exact this
    · rw [if_neg hp]
      simpa using hp
/-- the ends of the lines from a on that fit are a + 1 to a + fitN -/
noncomputable def fitN (ws : List (List Nat)) (w : Int) (a : Nat) : Nat := fitP (fun e => decide ((sz ws a e : Int) ≤ w)) (a + 1) (ws.length - a)
theorem fitN_le (ws : List (List Nat)) (w : Int) (a : Nat) : fitN ws w a ≤ ws.length - a := fitP_le _ _ _
theorem fitN_in {ws : List (List Nat)} {w : Int} {a i : Nat} (h : i < fitN ws w a) : (sz ws a (a + 1 + i) : Int) ≤ w := by
  have := fitP_in h; simpa using this
theorem fitN_out {ws : List (List Nat)} {w : Int} {a : Nat} (h : fitN ws w a < ws.length - a) : w < (sz ws a (a + 1 + fitN ws w a) : Int) := by
  have := fitP_out h
  unfold fitN
  simpa using this
theorem fitN_pos {ws : List (List Nat)} {w : Int} {a : Nat} (ha : a < ws.length) (hw : ∀ x ∈ ws, (x.length : Int) ≤ w) : 0 < fitN ws w a := by
  apply Nat.pos_of_ne_zero
  intro h0
  have h := fitN_out (ws := ws) (w := w) (a := a) (by omega)
  rw [h0] at h
  have h1 := sz_one ws ha
  have h2 := hw _ (List.mem_of_getElem? (getD_some [] ha))
  have h3 : a + 1 + 0 = a + 1 := rfl
  rw [h3] at h
  omega
theorem fitN_iff {ws : List (List Nat)} {w : Int} {a e : Nat} (h1 : a < e) (h2 : e ≤ ws.length) : (sz ws a e : Int) ≤ w ↔ e ≤ a + fitN ws w a := by
  constructor
  · intro h
    apply Nat.le_of_not_lt
    intro h3
    have := fitN_le ws w a
    have h4 := fitN_out (ws := ws) (w := w) (a := a) (by omega)
    have := sz_mono ws (Nat.le_refl a) (show a ≤ a + 1 + fitN ws w a by omega) (show a + 1 + fitN ws w a ≤ e by omega)
    omega
  · intro h
    have := fitN_in (ws := ws) (w := w) (a := a) (i := e - a - 1) (by omega)
    rw [show a + 1 + (e - a - 1) = e by omega] at this
    exact this
/-- what a line from a to e counts, with the table behind it -/
noncomputable def costT (ws : List (List Nat)) (w : Int) (T : List Int) (a e : Nat) : Int := if e = ws.length then 0 else (w - (sz ws a e : Nat)) * (w - (sz ws a e : Nat)) + T.getD e 0
noncomputable def sumsL (ws : List (List Nat)) (w : Int) (T : List Int) (a : Nat) : List (Nat × Int) := (List.range (fitN ws w a)).map fun i => (a + 1 + i, costT ws w T a (a + 1 + i))
noncomputable def pairD (p : Nat × Int) : D := .tup [.int (p.1 : Int), .int p.2]
noncomputable def tstep (ws : List (List Nat)) (w : Int) (T : List Int) (a : Nat) : List Int := T.set a (minL ((sumsL ws w T a).map (·.2)))
noncomputable def tabN (ws : List (List Nat)) (w : Int) : Nat → List Int
  | 0 => List.replicate (ws.length + 1) 0
  | i + 1 => tstep ws w (tabN ws w i) (ws.length - 1 - i)
noncomputable def tab (ws : List (List Nat)) (w : Int) : List Int := tabN ws w ws.length
theorem tabN_len (ws : List (List Nat)) (w : Int) : ∀ i, (tabN ws w i).length = ws.length + 1
  | 0 => by simp [tabN]
  | i + 1 => by rw [tabN, tstep, List.length_set, tabN_len ws w i]
theorem getD_set_ne {T : List Int} {a j : Nat} {v : Int} (h : j ≠ a) : (T.set a v).getD j 0 = T.getD j 0 := by
  simp only [List.getD_eq_getElem?_getD, List.getElem?_set_ne (Ne.symm h)]
theorem getD_set_eq {T : List Int} {a : Nat} {v : Int} (h : a < T.length) : (T.set a v).getD a 0 = v := by
  simp only [List.getD_eq_getElem?_getD, List.getElem?_set_self h, Option.getD_some]
theorem costT_congr {ws : List (List Nat)} {w : Int} {T T' : List Int} {a e : Nat} (h : T.getD e 0 = T'.getD e 0) : costT ws w T a e = costT ws w T' a e := by unfold costT; rw [h]
theorem sumsL_congr {ws : List (List Nat)} {w : Int} {T T' : List Int} {a : Nat} (h : ∀ e, a < e → T.getD e 0 = T'.getD e 0) : sumsL ws w T a = sumsL ws w T' a := by
  unfold sumsL
  apply List.map_congr_left
  intro i _
  rw [costT_congr (h (a + 1 + i) (by omega))]
theorem tabN_right (ws : List (List Nat)) (w : Int) : ∀ i, i ≤ ws.length → (tabN ws w i).getD ws.length 0 = 0 ∧ ∀ a, ws.length - i ≤ a → a < ws.length → (tabN ws w i).getD a 0 = minL ((sumsL ws w (tabN ws w i) a).map (·.2))
  | 0, _ => ⟨by simp [tabN, List.getD_eq_getElem?_getD], fun a h1 h2 => absurd h2 (by omega)⟩
  | i + 1, hi => by
    obtain ⟨h1, h2⟩ := tabN_right ws w i (by omega)
    have hl := tabN_len ws w i
    refine ⟨?_, fun a h3 h4 => ?_⟩
    · rw [tabN, tstep, getD_set_ne (by omega)]; exact h1
    · have hc : sumsL ws w (tabN ws w (i + 1)) a = sumsL ws w (tabN ws w i) a := sumsL_congr fun e he => by
        rw [tabN, tstep, getD_set_ne (by omega)]
      rw [hc, tabN, tstep]
      by_cases h5 : a = ws.length - 1 - i
      · subst h5
        rw [getD_set_eq (by omega)]
      · rw [getD_set_ne h5]
        exact h2 a (by omega) h4
/-- the table is right: nothing below a price, each met by one -/
noncomputable def Right (ws : List (List Nat)) (w : Int) (T : List Int) : Prop := T.length = ws.length + 1 ∧ T.getD ws.length 0 = 0 ∧ ∀ a, a < ws.length → (∀ i, i < fitN ws w a → T.getD a 0 ≤ costT ws w T a (a + 1 + i)) ∧ ∃ i, i < fitN ws w a ∧ T.getD a 0 = costT ws w T a (a + 1 + i)
theorem foldl_min_le : ∀ (l : List Int) (t : Int), l.foldl min t ≤ t ∧ (∀ x ∈ l, l.foldl min t ≤ x) ∧ (l.foldl min t = t ∨ l.foldl min t ∈ l)
  | [], t => ⟨Int.le_refl _, (fun _ h => by cases h), .inl rfl⟩
  | y :: l, t => by
    obtain ⟨h1, h2, h3⟩ := foldl_min_le l (min t y)
    rw [List.foldl_cons]
    refine ⟨by omega, fun x hx => ?_, ?_⟩
    · rcases List.mem_cons.mp hx with rfl | hx
      · omega
      · exact h2 x hx
    · rcases h3 with h3 | h3
      · rw [h3]
        by_cases h4 : t ≤ y
        · exact .inl (by omega)
        · exact .inr (by rw [show min t y = y by omega]; exact List.mem_cons_self ..)
      · exact .inr (List.mem_cons_of_mem _ h3)
theorem minL_spec {l : List Int} (h : l ≠ []) : minL l ∈ l ∧ ∀ x ∈ l, minL l ≤ x := by
  cases l with
  | nil => exact absurd rfl h
  | cons y l =>
    obtain ⟨h1, h2, h3⟩ := foldl_min_le (y :: l) y
    unfold minL
    refine ⟨?_, h2⟩
    rcases h3 with h3 | h3
    · show List.foldl min y (y :: l) ∈ _; rw [h3]; exact List.mem_cons_self ..
    · exact h3
theorem tab_right {ws : List (List Nat)} {w : Int} (hw : ∀ x ∈ ws, (x.length : Int) ≤ w) : Right ws w (tab ws w) := by
  obtain ⟨h1, h2⟩ := tabN_right ws w ws.length (Nat.le_refl _)
  refine ⟨tabN_len ws w ws.length, h1, fun a ha => ?_⟩
  have h3 := h2 a (by omega) ha
  have hne : (sumsL ws w (tab ws w) a).map (·.2) ≠ [] := by
    have := fitN_pos ha hw
    unfold sumsL
    intro e
    have := congrArg List.length e
    simp at this
    omega
  obtain ⟨h4, h5⟩ := minL_spec hne
  unfold tab at h4 h5 ⊢
  rw [← h3] at h4 h5
  refine ⟨fun i hi => h5 _ ?_, ?_⟩
  · rw [List.mem_map]
    exact ⟨_, List.mem_map.mpr ⟨i, List.mem_range.mpr hi, rfl⟩, rfl⟩
  · obtain ⟨p, hp, e⟩ := List.mem_map.mp h4
    obtain ⟨i, hi, rfl⟩ := List.mem_map.mp hp
    exact ⟨i, List.mem_range.mp hi, e.symm⟩
/-- a walk over a range that breaks off -/
theorem loopF_range_brk' {fB : G → Option O} {ix : Nat} (src : Nat → D) (st : Nat → Option (D × Nat) → G) (hst : ∀ i v w, (st i v).set ix w = st i w) {Γb : G} :
    ∀ (k m s : Nat) (v : Option (D × Nat)), k < m → (∀ i, s ≤ i → i < s + k → ∃ w, fB (st i (some (src i, itemLv (src i)))) = some (.next (st (i + 1) w))) → fB (st (s + k) (some (src (s + k), itemLv (src (s + k))))) = some (.brk Γb) →
    loopF fB ix ((List.range' s m).map src) (st s v) = some (.next Γb)
  | 0, m, s, v, hk, _, hb => by
    obtain ⟨m, rfl⟩ : ∃ m', m = m' + 1 := ⟨m - 1, by omega⟩
    rw [List.range'_succ, List.map_cons]
    exact loopF_brk (by rw [hst]; exact hb)
  | k + 1, m, s, v, hk, h, hb => by
    obtain ⟨m, rfl⟩ : ∃ m', m = m' + 1 := ⟨m - 1, by omega⟩
    obtain ⟨w1, e1⟩ := h s (Nat.le_refl _) (by omega)
    rw [List.range'_succ, List.map_cons]
    refine (loopF_next (by rw [hst]; exact e1)).trans ?_
    exact loopF_range_brk' src st hst k m (s + 1) w1 (by omega) (fun i h1 h2 => h i (by omega) (by omega)) (by rw [show s + 1 + k = s + (k + 1) by omega]; exact hb)
theorem loopF_range_brk {fB : G → Option O} {ix : Nat} (src : Nat → D) (st : Nat → Option (D × Nat) → G) (hst : ∀ i v w, (st i v).set ix w = st i w) {Γb : G} (k m : Nat) (v : Option (D × Nat)) (hk : k < m)
    (h : ∀ i, i < k → ∃ w, fB (st i (some (src i, itemLv (src i)))) = some (.next (st (i + 1) w))) (hb : fB (st k (some (src k, itemLv (src k)))) = some (.brk Γb)) :
    loopF fB ix ((List.range m).map src) (st 0 v) = some (.next Γb) := by
  rw [List.range_eq_range']
  exact loopF_range_brk' src st hst k m 0 v hk (fun i _ h2 => h i (by omega)) (by rw [Nat.zero_add]; exact hb)
theorem setF_flat {occ : List Nat} {i : Nat} {f g : G → Option (R (D × Nat))} {Γ : G} {xs : List D} {lv : Nat} {d : D} {lv' lv'' : Nat} {k : Nat} (h1 : Γ[i]? = some (some (.list xs, lv))) (h2 : 1 ≤ lv) (h3 : xs.length ≤ lim) (h4 : f Γ = some (.ok (d, lv'))) (h5 : d.flat = true)
    (h6 : g Γ = some (.ok (.int (k : Int), lv''))) (h7 : k < xs.length) : setF occ i f g Γ = some (.next (Γ.set i (some (.list (xs.set k d), lv)))) := by
  unfold setF
  rw [h1]; dsimp only
  rw [if_pos ⟨h2, h3⟩, h4, bindE_ok, h6, bindE_ok]
  unfold setK
  dsimp only
  rw [if_pos ⟨h5, by omega, by omega⟩]
  rfl
theorem rngF_down (n : Nat) (h : n ≤ lim) : rngF [.int ((n : Int) - 1), .int (-1), .int (-1)] = some (.ok ((List.range n).map fun (i : Nat) => .int (((n : Int) - 1) - i))) := by
  have hh : (n : Int) ≤ 10000000 := by unfold lim at h; omega
  have h3 : ((n : Int) - 1 - -1).toNat = n := by omega
  simp only [rngF]
  rw [if_pos ⟨trivial, by omega, by omega, by omega, by omega, by rw [h3]; exact h⟩, h3]
theorem mulOk_sq {a : Int} (h : a.natAbs < 10000000000000000000000000000000000000000) : mulOk a a = true := by
  have h2 : (10000000000000000000000000000000000000000 : Nat) ≤ 2 ^ 200 := by decide
  have h3 : (2 : Nat) ^ 200 ≤ 2 ^ 1000 := Nat.pow_le_pow_right (by decide) (by decide)
  have hbd : a.natAbs < 2 ^ 1000 := Nat.lt_of_lt_of_le h (Nat.le_trans h2 h3)
  unfold mulOk; rw [decide_eq_true hbd]; simp
theorem minF_ints (l : List Int) (h : l ≠ []) : minF [.list (l.map .int)] = some (.ok (.int (minL l), 2)) := by
  simp only [minF, intsOf_map]
  rw [if_pos h]; rfl
theorem maxF_ints (l : List Int) (h : l ≠ []) : maxF [.list (l.map .int)] = some (.ok (.int (maxL l), 2)) := by
  simp only [maxF, intsOf_map]
  rw [if_pos h]; rfl
end Mine
namespace Mine
open PySem

-- the last below k
noncomputable def lastP (p : Nat → Bool) : Nat → Nat
  | 0 => 0
  | k + 1 => if p k then k else lastP p k
theorem lastP_spec {p : Nat → Bool} : ∀ {k}, (∃ i, i < k ∧ p i = true) → lastP p k < k ∧ p (lastP p k) = true ∧ ∀ j, j < k → lastP p k < j → p j = false
  | 0, h => by obtain ⟨i, h, _⟩ := h; omega
  | k + 1, h => by
    rw [lastP]
    by_cases hp : p k = true
    · rw [if_pos hp]; exact ⟨by omega, hp, fun j h1 h2 => by omega⟩
    · rw [if_neg hp]
      have hp' : p k = false := by simpa using hp
      obtain ⟨h1, h2, h3⟩ := lastP_spec (p := p) (k := k) (by
        obtain ⟨i, hi, hi2⟩ := h
        refine ⟨i, ?_, hi2⟩
        apply Nat.lt_of_le_of_ne (by omega)
        intro e; subst e; exact hp hi2)
      exact ⟨by omega, h2, fun j h4 h5 => by
        by_cases hj : j = k
        · subst hj; exact hp'
        · exact h3 j (by omega) h5⟩
theorem foldl_max_ge : ∀ (l : List Int) (t : Int), t ≤ l.foldl max t ∧ (∀ x ∈ l, x ≤ l.foldl max t) ∧ (l.foldl max t = t ∨ l.foldl max t ∈ l)
  | [], t => ⟨Int.le_refl _, (fun _ h => by cases h), .inl rfl⟩
  | y :: l, t => by
    obtain ⟨h1, h2, h3⟩ := foldl_max_ge l (max t y)
    rw [List.foldl_cons]
    refine ⟨by omega, fun x hx => ?_, ?_⟩
    · rcases List.mem_cons.mp hx with rfl | hx
      · omega
      · exact h2 x hx
    · rcases h3 with h3 | h3
      · rw [h3]
        by_cases h4 : y ≤ t
        · exact .inl (by omega)
        · exact .inr (by rw [show max t y = y by omega]; exact List.mem_cons_self ..)
      · exact .inr (List.mem_cons_of_mem _ h3)
theorem maxL_spec {l : List Int} (h : l ≠ []) : maxL l ∈ l ∧ ∀ x ∈ l, x ≤ maxL l := by
  cases l with
  | nil => exact absurd rfl h
  | cons y l =>
    obtain ⟨h1, h2, h3⟩ := foldl_max_ge (y :: l) y
    unfold maxL
    refine ⟨?_, h2⟩
    rcases h3 with h3 | h3
    · show List.foldl max y (y :: l) ∈ _; rw [h3]; exact List.mem_cons_self ..
    · exact h3
/-- where the line from a ends that the table takes -/
noncomputable def isB (ws : List (List Nat)) (w : Int) (T : List Int) (a i : Nat) : Bool := T.getD a 0 == costT ws w T a (a + 1 + i)
noncomputable def nxtB (ws : List (List Nat)) (w : Int) (T : List Int) (a : Nat) : Nat := a + 1 + lastP (isB ws w T a) (fitN ws w a)
theorem nxtB_max {ws : List (List Nat)} {w : Int} {T : List Int} {a : Nat} (h : ∃ i, i < fitN ws w a ∧ T.getD a 0 = costT ws w T a (a + 1 + i)) :
    (((sumsL ws w T a).filter fun p => p.2 == T.getD a 0).map fun p => (p.1 : Int)) ≠ [] ∧ maxL (((sumsL ws w T a).filter fun p => p.2 == T.getD a 0).map fun p => (p.1 : Int)) = (nxtB ws w T a : Nat) := by
  obtain ⟨h1, h2, h3⟩ := lastP_spec (p := isB ws w T a) (k := fitN ws w a) (by obtain ⟨i, hi, e⟩ := h; exact ⟨i, hi, by unfold isB; rw [e]; simp⟩)
  have hmem : ((nxtB ws w T a : Nat) : Int) ∈ (((sumsL ws w T a).filter fun p => p.2 == T.getD a 0).map fun p => (p.1 : Int)) := by
    refine List.mem_map.mpr ⟨(nxtB ws w T a, costT ws w T a (nxtB ws w T a)), List.mem_filter.mpr ⟨List.mem_map.mpr ⟨_, List.mem_range.mpr h1, rfl⟩, ?_⟩, rfl⟩
    unfold isB at h2
    have := beq_iff_eq.mp h2
    exact beq_iff_eq.mpr this.symm
  have hne : (((sumsL ws w T a).filter fun p => p.2 == T.getD a 0).map fun p => (p.1 : Int)) ≠ [] := List.ne_nil_of_mem hmem
  refine ⟨hne, ?_⟩
  obtain ⟨m1, m2⟩ := maxL_spec hne
  have hge := m2 _ hmem
  obtain ⟨p, hp, e⟩ := List.mem_map.mp m1
  obtain ⟨hp1, hp2⟩ := List.mem_filter.mp hp
  obtain ⟨i, hi, rfl⟩ := List.mem_map.mp hp1
  have hi := List.mem_range.mp hi
  dsimp only at e hp2
  rw [← e] at hge ⊢
  unfold nxtB at hge ⊢
  have : ¬ lastP (isB ws w T a) (fitN ws w a) < i := fun hlt => by
    have h4 := h3 i hi hlt
    unfold isB at h4
    have := beq_iff_eq.mp hp2
    rw [this] at h4
    simp at h4
  omega
noncomputable def bl (ws : List (List Nat)) (w : Int) (T : List Int) : Nat → Nat → List Nat
  | 0, _ => []
  | f + 1, a => if a < ws.length then a :: bl ws w T f (nxtB ws w T a) else []
theorem nxtB_in {ws : List (List Nat)} {w : Int} {T : List Int} (hR : Right ws w T) {a : Nat} (ha : a < ws.length) : a < nxtB ws w T a ∧ nxtB ws w T a ≤ ws.length ∧ nxtB ws w T a ≤ a + fitN ws w a ∧ (sz ws a (nxtB ws w T a) : Int) ≤ w ∧ T.getD a 0 = costT ws w T a (nxtB ws w T a) := by
  obtain ⟨h1, h2, h3⟩ := lastP_spec (p := isB ws w T a) (k := fitN ws w a) (by obtain ⟨i, hi, e⟩ := (hR.2.2 a ha).2; exact ⟨i, hi, by unfold isB; rw [e]; simp⟩)
  have hfit := fitN_le ws w a
  have hle : nxtB ws w T a ≤ a + fitN ws w a := by unfold nxtB; omega
  refine ⟨by unfold nxtB; omega, by omega, hle, (fitN_iff (by unfold nxtB; omega) (by omega)).mpr hle, ?_⟩
  unfold isB at h2
  exact beq_iff_eq.mp h2
theorem bl_VS {ws : List (List Nat)} {w : Int} {T : List Int} (hR : Right ws w T) : ∀ f a (acc : List Nat), ws.length - a ≤ f → a ≤ ws.length → VS ws w acc a → VS ws w (acc ++ bl ws w T f a) ws.length
  | 0, a, acc, h1, h2, h3 => by rw [bl, List.append_nil]; rw [show a = ws.length by omega] at h3; exact h3
  | f + 1, a, acc, h1, h2, h3 => by
    rw [bl]
    by_cases ha : a < ws.length
    · rw [if_pos ha]
      obtain ⟨n1, n2, n3, n4, n5⟩ := nxtB_in hR ha
      have := bl_VS hR f (nxtB ws w T a) (acc ++ [a]) (by omega) n2 (h3.snoc n1 n4)
      rw [List.append_assoc] at this
      exact this
    · rw [if_neg ha, List.append_nil]; rw [show a = ws.length by omega] at h3; exact h3
noncomputable def best (ws : List (List Nat)) (w : Int) : List Nat := bl ws w (tab ws w) ws.length 0
theorem best_VS {ws : List (List Nat)} {w : Int} (hw : ∀ x ∈ ws, (x.length : Int) ≤ w) : VS ws w (best ws w) ws.length := by
  have := bl_VS (tab_right hw) ws.length 0 [] (by omega) (by omega) ⟨by simp, .inl ⟨rfl, rfl⟩⟩
  rw [List.nil_append] at this
  exact this
/-- a comprehension with a test, over the image of a list -/
theorem compD_srcF {α : Type} (src : α → D) (p : α → Bool) (g : α → D) {fE : G → Option (R (D × Nat))} {fC : G → Option (R Bool)} {cap : List Nat} {Γ : G} : ∀ (l : List α), (∀ a ∈ l, fC (compG cap Γ (src a)) = some (.ok (p a)) ∧ (p a = true → ∃ lv, fE (compG cap Γ (src a)) = some (.ok (g a, lv)))) →
    compD fE fC cap Γ (l.map src) = some ((l.filter p).map g)
  | [], _ => rfl
  | x :: xs, h => by
    obtain ⟨h1, h2⟩ := h x (List.mem_cons_self ..)
    rw [List.map_cons, compD, h1]
    have ih := compD_srcF src p g (fE := fE) (fC := fC) (cap := cap) (Γ := Γ) xs fun y hy => h y (List.mem_cons_of_mem _ hy)
    cases hp : p x with
    | true =>
      obtain ⟨lv, h3⟩ := h2 hp
      dsimp only; rw [h3]; dsimp only
      rw [ih, List.filter_cons_of_pos hp]; rfl
    | false => dsimp only; rw [ih, List.filter_cons_of_neg (by simp [hp])]
end Mine
namespace Mine
open PySem PySem.Calls PyProof.Rows PySem.SeqAt PySem.W

-- the head: the text's classes and defs, and what the heap shows of the exceptions
end Mine
namespace Mine
open PySem PySem.Calls PyProof.Rows PySem.SeqAt PySem.W
open AutoSeq1 (wpAny_loadPart')
open MeetsSeq MeetsSeq2 MeetsSeq3 SeqRoads2

-- lists of ints, one below the other
end Mine
namespace Mine
open PySem

-- the least sum, and of those the last in order
noncomputable def prN (ws : List (List Nat)) (w : Int) (a e : Nat) : Int := if e = ws.length then 0 else (w - (sz ws a e : Nat)) * (w - (sz ws a e : Nat))
theorem costT_pr {ws : List (List Nat)} {w : Int} {T : List Int} (h0 : T.getD ws.length 0 = 0) (a e : Nat) : costT ws w T a e = prN ws w a e + T.getD e 0 := by
  unfold costT prN
  by_cases h : e = ws.length
  · rw [if_pos h, if_pos h, h, h0]; rfl
  · rw [if_neg h, if_neg h]
theorem T_le {ws : List (List Nat)} {w : Int} {T : List Int} (hR : Right ws w T) {a e : Nat} (h1 : a < e) (h2 : e ≤ ws.length) (h3 : (sz ws a e : Int) ≤ w) : T.getD a 0 ≤ prN ws w a e + T.getD e 0 := by
  have hi := (fitN_iff h1 h2).mp h3
  have := (hR.2.2 a (by omega)).1 (e - a - 1) (by omega)
  rw [show a + 1 + (e - a - 1) = e by omega, costT_pr hR.2.1] at this
  exact this
theorem nx_cons (a b : Nat) (r : List Nat) (m k : Nat) : nx (a :: b :: r) m (k + 1) = nx (b :: r) m k := by
  unfold nx
  simp only [List.length_cons, List.getD_cons_succ]
  by_cases h : k + 1 < r.length + 1
  · rw [if_pos (by omega), if_pos h]
  · rw [if_neg (by omega), if_neg h]
end Mine
namespace Mine
open PySem PySem.Calls PyProof.Rows PySem.SeqAt PySem.W

section
variable {c : Cx} {hm : Bool} {n : Nat} {sc : Scope} {nm : List Str} {h₀ : Heap} {f₀ : List Addr} {env : Env} {Γ Γ' Γ'' : G} {vf vf' vf'' : Nat → Value × List Addr} {s s' s'' : Shared}

theorem set_none_get {Γ : G} {i j : Nat} {d : D} {lv : Nat} (e : (Γ.set i none)[j]? = some (some (d, lv))) : j ≠ i ∧ Γ[j]? = some (some (d, lv)) := by
  rw [List.getElem?_set] at e
  split at e
  · split at e <;> cases e
  · rename_i q; exact ⟨fun w => q w.symm, e⟩
/-- a name of which nothing is known any more -/
theorem Iv.forget (iv : Iv c h₀ f₀ env nm Γ vf s) (j₀ : Nat) : Iv c h₀ f₀ env nm (Γ.set j₀ none) (fun k => if k = j₀ then (.none, []) else vf k) s := by
  have hin : ∀ k a, a ∈ (if k = j₀ then ((.none, []) : Value × List Addr) else vf k).2 → a ∈ (vf k).2 := by
    intro k a ha
    by_cases q : k = j₀
    · rw [if_pos q] at ha; cases ha
    · rw [if_neg q] at ha; exact ha
  refine ⟨⟨iv.rd.bs, iv.rd.ns, iv.rd.nb, iv.rd.fn, iv.rd.gl, iv.rd.bl, iv.rd.cl, fun i d lv e => ?_⟩, iv.kb, iv.nl, iv.ce, iv.cd, iv.nd, fun i a ha => iv.al i a (hin i a ha), fun i a ha => iv.org i a (hin i a ha), fun i d lv e h1 a t ht => ?_, fun i d lv e h2 => ?_, iv.bh⟩
  · obtain ⟨q, e⟩ := set_none_get e
    simp only [if_neg q]
    exact iv.rd.var i d lv e
  · obtain ⟨q, e⟩ := set_none_get e
    simp only [if_neg q] at ht
    obtain ⟨w1, w2, w3, w4⟩ := iv.own1 i d lv e h1 a t ht
    exact ⟨w1, w2, w3, fun j hj ha => w4 j hj (hin j a ha)⟩
  · obtain ⟨q, e⟩ := set_none_get e
    simp only [if_neg q]
    obtain ⟨w1, w2⟩ := iv.own2 i d lv e h2
    exact ⟨fun a ha => ⟨(w1 a ha).1, (w1 a ha).2.1, fun j hj hb => (w1 a ha).2.2 j hj (hin j a hb)⟩, w2⟩

/-- what a write at one owned list keeps -/
structure Wr (c : Cx) (env : Env) (s : Shared) (b : Addr) (h' : Heap) : Prop where
  keep : ∀ {w e g}, Rp c.mg s.heap w e g → b ∉ g → Rp c.mg h' w e g
  keeps : ∀ {w e g}, Rps c.mg s.heap w e g → b ∉ g → Rps c.mg h' w e g
  bd : ∀ y w, Bd env s.heap y w → Bd env h' y w
  nd : ∀ q, Nd s.heap q → Nd h' q
  res : ∀ q, h'.get? q = none → s.heap.get? q = none
  al : ∀ q, FpL s.heap q → FpL h' q
  gd : Gd c { s with heap := h' }
  ns : ∃ m, h'.Ns env.locals m
  ce : ∀ y q, env.cells.lookup y = some q → ∃ v, h'.IsCell q v
theorem Iv.wr {b : Addr} {vs' : Array Value} {h' : Heap} (iv : Iv c h₀ f₀ env nm Γ vf s) (hb : FpL s.heap b) (hbn : h₀.get? b = none)
    (hs' : Heap.SameBut b s.heap h') (hl : h'.IsList b vs') (hnd : Nd h' b) : Wr c env s b h' := by
  obtain ⟨m, hn⟩ := iv.rd.ns
  obtain ⟨oa, va, ka, e1, e2, e3⟩ := hb
  have hLa : env.locals ≠ b := fun q => ns_ne hn e1 (notDict_of_seq e3) q.symm
  have hca : ∀ y, env.cells.lookup y ≠ some b := fun y q => by
    obtain ⟨_, v, o, z1, z2⟩ := iv.ce y b q
    rw [e1] at z1; obtain rfl := Option.some.inj z1
    rw [e3] at z2; cases z2
  have kt : ∀ (q : Addr) (o : Obj) (vs : Array Value) (k : Nat), q = b → s.heap.get? q = some o → o.cls = .type "tuple" → o.data ≠ .seq vs k := fun q o vs k hq e hc hd => by subst hq; rw [e1] at e; obtain rfl := Option.some.inj e; rw [e2] at hc; injection hc with w; exact absurd w (by decide)
  have kf : ∀ (q : Addr) (o : Obj) (vs : Array Value), q = b → s.heap.get? q = some o → o.data ≠ .fields vs := fun q o vs hq e hd => by subst hq; rw [e1] at e; obtain rfl := Option.some.inj e; rw [e3] at hd; cases hd
  refine ⟨fun r hg => r.keepM (W := fun q => q = b) (fun q o hq e _ => hs'.extBut q o hq e) kt kf fun q hq w => hg (w ▸ hq), fun r hg => r.keepM (W := fun q => q = b) (fun q o hq e _ => hs'.extBut q o hq e) kt kf fun q hq w => hg (w ▸ hq), ?_, ?_, ?_, ?_, ⟨fun q o e => hs'.extBut q o (fun w => ?_) (iv.rd.bs.1 q o e), iv.rd.bs.2⟩, ⟨m, hn.at' fun o e => hs'.extBut _ o hLa e⟩, ?_⟩
  · rintro y w ⟨b1, b2, b3⟩
    refine ⟨b1, b2, ?_⟩
    rcases b3 with ⟨b4, m', b5, b6⟩ | ⟨b4, cl, b5, o, b6, b7⟩
    · exact .inl ⟨b4, m', b5.at' fun o e => hs'.extBut _ o hLa e, b6⟩
    · exact .inr ⟨b4, cl, b5, o, hs'.extBut cl o (fun q => hca y (q ▸ b5)) b6, b7⟩
  · intro q hq
    by_cases w : q = b
    · subst w; exact hnd
    · obtain ⟨o, vs, k, z1, z2, z3⟩ := hq
      exact ⟨o, vs, k, hs'.extBut q o w z1, z2, z3⟩
  · intro q hq
    by_cases w : q = b
    · subst w; obtain ⟨o, z, _⟩ := hl; rw [hq] at z; exact nos z
    · cases e : s.heap.get? q with
      | none => rfl
      | some o => have := hs'.extBut q o w e; rw [hq] at this; exact nos this
  · rintro q ⟨o, vs, k, z1, z2, z3⟩
    by_cases w : q = b
    · subst w
      obtain ⟨o, z1, z2, k, z3⟩ := hl
      exact ⟨o, _, k, z1, z2, z3⟩
    · exact ⟨o, vs, k, hs'.extBut q o w z1, z2, z3⟩
  · rw [w, iv.nb hbn] at e; exact nos e
  · intro y q e
    obtain ⟨_, v, o, z1, z2⟩ := iv.ce y q e
    exact ⟨v, o, hs'.extBut q o (fun w => hca y (w ▸ e)) z1, z2⟩

/-- a list moves into another -/
theorem moveIn {i j₀ : Nat} {a : Addr} {t : List Addr} {xs ws : List D} {lv lw : Nat} {vs : Array Value} {h' : Heap} (iv : Iv c h₀ f₀ env nm Γ vf s) (hi : Γ[i]? = some (some (.list xs, lv))) (h2 : 2 ≤ lv) (hj : Γ[j₀]? = some (some (.list ws, lw))) (h3 : 2 ≤ lw) (hij : i ≠ j₀)
    (hfp : (vf i).2 = a :: t) (hv : (vf i).1 = .ref a) (hrs : Rps c.mg s.heap vs.toList xs t) (hs' : Heap.SameBut a s.heap h') (hl : h'.IsList a (vs.push (vf j₀).1)) (hnd : Nd h' a) :
    Stp c h₀ f₀ env nm Γ vf s ((Γ.set j₀ none).set i (some (.list (xs ++ [.list ws]), 2))) (fun k => if k = i then (.ref a, a :: (t ++ (vf j₀).2)) else if k = j₀ then (.none, []) else vf k) { s with heap := h' } := by
  have hmem : ∀ q, q ∈ a :: t → q ∈ (vf i).2 := fun q hq => by rw [hfp]; exact hq
  obtain ⟨o1, o2⟩ := iv.own2 i _ lv hi h2
  obtain ⟨p1, p2⟩ := iv.own2 j₀ _ lw hj h3
  rw [hfp] at o1 o2
  have ha := o1 a (List.mem_cons_self ..)
  have hat : a ∉ t := (List.nodup_cons.mp o2).1
  have haj : a ∉ (vf j₀).2 := ha.2.2 j₀ (fun q => hij q.symm)
  have W := iv.wr (iv.al i a (hmem a (List.mem_cons_self ..))) ha.1 hs' hl hnd
  have hOwn : Own Γ vf a := ⟨i, _, lv, hi, .inl ⟨by omega, t, hfp⟩⟩
  have iv1 := iv.forget j₀
  obtain ⟨yj, _, _, rj⟩ := iv.rd.var j₀ _ lw hj
  have hi1 : (Γ.set j₀ none)[i]? = some (some (.list xs, lv)) := by rw [List.getElem?_set_ne (Ne.symm hij)]; exact hi
  have hOwn1 : Own (Γ.set j₀ none) (fun k => if k = j₀ then ((.none, []) : Value × List Addr) else vf k) a := ⟨i, _, lv, hi1, .inl ⟨by omega, t, by simp only [if_neg hij]; exact hfp⟩⟩
  have kp : ∀ {Γ₁ : G} {vf₁ : Nat → Value × List Addr}, Own Γ₁ vf₁ a → KpP (Mut env Γ₁ vf₁) s.heap h' := fun ho => KpP.of_but fun q o hq e => hs'.extBut q o (fun w => hq (.inr (.inr (w ▸ ho)))) e
  have hfin := iv1.updI (s' := { s with heap := h' }) W.gd W.ns W.ce (kp hOwn1) (fun j q hq => W.al q (iv1.al j q hq)) ((Γ.set j₀ none).set i (some (.list (xs ++ [.list ws]), 2))) i (v := .ref a) (d := .list (xs ++ [.list ws])) (fp := a :: (t ++ (vf j₀).2)) (lv := 2)
    (fun j d' lv' e => (set_get e).imp id fun ⟨q, e⟩ => ⟨q, lv', Nat.le_refl _, e⟩)
    (fun j d' lv' hji e => by
      rcases set_get e with ⟨q, _⟩ | ⟨_, e⟩
      · exact absurd q hji
      · obtain ⟨y, z1, z2, z3⟩ := iv1.rd.var j d' lv' e
        refine ⟨y, z1, W.bd y _ z2, W.keep z3 ?_⟩
        obtain ⟨q, _⟩ := set_none_get e
        simp only [if_neg q]
        exact ha.2.2 j hji)
    (by
      obtain ⟨x, z1, z2, _⟩ := iv.rd.var i _ lv hi
      exact ⟨x, z1, W.bd x _ (hv ▸ z2)⟩)
    (by
      obtain ⟨o, z1, z2, k, z3⟩ := hl
      refine .list z1 z2 z3 ?_
      rw [Array.toList_push]
      exact (W.keeps hrs hat).append (Rps.one (W.keep rj haj)))
    (fun q hq => by
      rcases List.mem_cons.mp hq with rfl | hq
      · exact .inl ha.1
      · rcases List.mem_append.mp hq with hq | hq
        · exact .inl (o1 q (List.mem_cons_of_mem _ hq)).1
        · exact .inl (p1 q hq).1)
    (fun _ q t' e => by
      cases e
      refine ⟨ha.1, fun w => (List.mem_append.mp w).elim hat haj, hnd, fun j hj' => ?_⟩
      by_cases q : j = j₀
      · simp only [if_pos q]; exact List.not_mem_nil
      · simp only [if_neg q]; exact ha.2.2 j hj')
    (fun _ => by
      refine ⟨fun q hq => ?_, ?_⟩
      · have hk : ∀ j, j ≠ i → q ∉ (if j = j₀ then ((.none, []) : Value × List Addr) else vf j).2 := by
          intro j hji
          by_cases w : j = j₀
          · rw [if_pos w]; exact List.not_mem_nil
          · rw [if_neg w]
            rcases List.mem_cons.mp hq with rfl | hq
            · exact ha.2.2 j hji
            · rcases List.mem_append.mp hq with hq | hq
              · exact (o1 q (List.mem_cons_of_mem _ hq)).2.2 j hji
              · exact (p1 q hq).2.2 j w
        rcases List.mem_cons.mp hq with rfl | hq
        · exact ⟨ha.1, hnd, hk⟩
        · rcases List.mem_append.mp hq with hq | hq
          · exact ⟨(o1 q (List.mem_cons_of_mem _ hq)).1, W.nd q (o1 q (List.mem_cons_of_mem _ hq)).2.1, hk⟩
          · exact ⟨(p1 q hq).1, W.nd q (p1 q hq).2.1, hk⟩
      · refine List.nodup_cons.mpr ⟨fun w => (List.mem_append.mp w).elim hat haj, List.nodup_append.mpr ⟨(List.nodup_cons.mp o2).2, p2, ?_⟩⟩
        rintro q hq q' hq' rfl
        exact (o1 q (List.mem_cons_of_mem _ hq)).2.2 j₀ (fun w => hij w.symm) hq')
    (fun q hq => W.nd q hq)
    (fun q ho j d' lv' hji e hown => by
      rcases set_get e with ⟨w, _⟩ | ⟨_, e⟩
      · exact absurd w hji
      · obtain ⟨w, e⟩ := set_none_get e
        simp only [if_neg w] at hown
        have hnot : ∀ k, k ≠ j → q ∉ (vf k).2 := fun k hk => by
          rcases hown with ⟨y1, t'', y2⟩ | ⟨y1, y2⟩
          · exact (iv.own1 j d' lv' e y1 q t'' y2).2.2.2 k hk
          · exact ((iv.own2 j d' lv' e y1).1 q y2).2.2 k hk
        intro hm
        rcases List.mem_cons.mp hm with rfl | hm
        · exact hnot i (fun w => hji w.symm) (hmem _ (List.mem_cons_self ..))
        · rcases List.mem_append.mp hm with hm | hm
          · exact hnot i (fun w => hji w.symm) (hmem _ (List.mem_cons_of_mem _ hm))
          · exact hnot j₀ (fun z => w z.symm) hm)
  refine ⟨hfin, ⟨h', s.toks, rfl⟩, kp hOwn, fun q hq => ?_, fun q hq => W.res q hq⟩
  obtain ⟨j, d', lv', z1, z2⟩ := hq
  rcases set_get z1 with ⟨rfl, rfl, rfl⟩ | ⟨w, e⟩
  · left
    have hm : q ∈ a :: (t ++ (vf j₀).2) := by
      rcases z2 with ⟨_, t', y⟩ | ⟨_, y⟩
      · simp only [if_true] at y; rw [y]; exact List.mem_cons_self ..
      · simp only [if_true] at y; exact y
    rcases List.mem_cons.mp hm with rfl | hm
    · exact hOwn
    · rcases List.mem_append.mp hm with hm | hm
      · exact ⟨j, _, lv, hi, .inr ⟨h2, hmem _ (List.mem_cons_of_mem _ hm)⟩⟩
      · exact ⟨j₀, _, lw, hj, .inr ⟨h3, hm⟩⟩
  · obtain ⟨w', e⟩ := set_none_get e
    simp only [if_neg w, if_neg w'] at z2
    exact .inl ⟨j, d', lv', e, z2⟩
end
end Mine
namespace Mine
open PySem PySem.Calls PyProof.Rows PySem.SeqAt PySem.W
open AutoSeq1 (wpAny_loadPart')
open MeetsSeq MeetsSeq2 MeetsSeq3 SeqRoads2

theorem Rps.snoc_inv {X : Str → Option Value} {h : Heap} {d : D} {xs : List D} : ∀ {vs : List Value} {t : List Addr}, Rps X h vs (xs ++ [d]) t → ∃ vs0 v t0 f, vs = vs0 ++ [v] ∧ t = t0 ++ f ∧ Rps X h vs0 xs t0 ∧ Rp X h v d f := by
  induction xs with
  | nil =>
    intro vs t r
    obtain ⟨r1, rs⟩ := r.invC
    obtain ⟨rfl, rfl⟩ := rs.inv
    exact ⟨[], _, [], _, rfl, List.append_nil _, .nil, r1⟩
  | cons x xs ih =>
    intro vs t r
    obtain ⟨r1, rs⟩ := r.invC
    obtain ⟨vs0, v', t0, f', rfl, rfl, h3, h4⟩ := ih rs
    exact ⟨_ :: vs0, v', _ ++ t0, f', rfl, (List.append_assoc ..).symm, .cons r1 h3, h4⟩

theorem getMethod_list_extend {M : Model} {A : Around} {E : Value → Shared → Prop} {s : Shared} {l : Addr} {o : Obj} {pl : Sem Bool} {Q : Value × List Value → Shared → Prop} (ho : s.heap.get? l = some o) (hc : o.cls = .type "list") (hd : o.dict = none)
    (h : Q (.builtin "list.extend", [.ref l]) s) : wpAny M A (getMethod (.ref l) "extend" pl) Q E s := by
  have hT : s.TypeIs (.ref l) "list" := ⟨o, ho, hc⟩
  unfold getMethod
  refine wpAny_bind (wpAny_specialOf hT list_getattribute ?_)
  show wpAny M A (if (Manifest.canonical "list.__getattribute__" != "object.__getattribute__") = true then _ else _) Q E s
  rw [canon_list_getattribute, if_neg Bool.false_ne_true]
  refine wpAny_bind (wpAny_specialOf hT list_getattr_none ?_)
  refine wpAny_bind (wpAny_specialOf hT F.slot_list_extend.lookup ?_)
  refine wpAny_bind (wpAny_of_eq F.type_list_extend ?_)
  refine wpAny_bind (wpAny_load ho ?_)
  rw [hd]
  exact wpAny_bind (wpAny_rule (wpAny_pure h))
theorem extend_meets (l : Addr) (items : Array Value) (n : Nat) (b : Addr) (items2 : Array Value) (n2 : Nat) (dd dd2 : Option Addr) (sl sl2 : Array (Option Value)) (hc0 : ¬(!items.isEmpty && Builtin.List.listTooLong (items.size + items2.size)) = true) (hc1 : items.size ≤ sizeLine) (hs2 : items.size + items2.size ≤ sizeLine + 1) :
    Meets (Builtin.«list.extend» ⟨[.ref l, .ref b], []⟩) (fun _ R s => s.heap.get? l = some { cls := .type "list", dict := dd, data := .seq items n, slots := sl } ∧ s.heap.get? b = some { cls := .type "list", dict := dd2, data := .seq items2 n2, slots := sl2 } ∧
      R (.ok (.ret Value.none)) { s with heap := s.heap.update l (Obj.mapSeq fun x => x ++ items2), toks := s.toks }) :=
  .of_wp fun prog w A R s h => by
    obtain ⟨hp, g, d, tk, os⟩ := s; obtain ⟨hl, hb, h⟩ := h
    have f1 := AutoSeq1.idx_int; have f2 := AutoSeq1.sub_tuple_tuple; have f3 := AutoSeq1.sub_list_list; have f4 := AutoSeq1.sub_tuple_list; have f5 := AutoSeq1.sub_list_tuple
    have hz' : (items ++ items2).size ≤ sizeLine + 1 := by rw [Array.size_append]; exact hs2
    wp_walk using (wpAny_updateSeq hl rfl (hz := hc1) (_hz' := hz')), wpAny_loadPart' hl, wpAny_loadPart' hb
    exact ⟨_, rfl, h⟩
theorem list_extend {prog : Program} {w : World} {A : Around} {E : Value → Shared → Prop} {s : Shared} {l b : Addr} {items items2 : Array Value} {Q : Value → Shared → Prop} (hl : s.heap.IsList l items) (hn : Nd s.heap l) (hb : s.heap.IsList b items2)
    (h1 : items.size ≤ 1000000) (h2 : items2.size ≤ 1000000)
    (hQ : ∀ h', h'.IsList l (items ++ items2) → Nd h' l → Heap.SameBut l s.heap h' → Q .none { s with heap := h' }) :
    wpAny (model prog w) A (call (.builtin "list.extend") [.ref l, .ref b]) Q E s := by
  obtain ⟨⟨cls, dd, data, sl⟩, ho, hc, k, hd⟩ := id hl
  obtain ⟨⟨cls2, dd2, data2, sl2⟩, ho2, hc2, k2, hd2⟩ := id hb
  obtain ⟨o', vs, kk, ho', hd0, hdn⟩ := hn
  rw [ho] at ho'; obtain rfl := Option.some.inj ho'
  simp only at hc hd hc2 hd2 hdn
  subst hc hd hc2 hd2 hdn
  obtain ⟨n', hd'⟩ := Obj.data_mapSeq (o := { cls := .type "list", dict := none, data := .seq items k, slots := sl }) rfl (fun x => x ++ items2)
  have hg := Heap.get?_update_self (h := s.heap) (Obj.mapSeq (fun x => x ++ items2)) ho (Obj.isFreed_of_seq hd')
  refine call_meets F.slot_list_extend hl.typeIs F.entry_list_extend (F.args_list_extend_2 _ _) (extend_meets l items k b items2 k2 none dd2 sl sl2 (by simp [Builtin.List.listTooLong]; intro _; unfold sizeLine; omega) (by unfold sizeLine; omega) (by unfold sizeLine; omega)) ⟨ho, ho2, ?_⟩
  exact hQ _ ⟨_, hg, (Obj.cls_mapSeq ..).trans rfl, n', hd'⟩ ⟨_, _, n', hg, hd', rfl⟩ (Heap.SameBut.update ..)

section
variable {c : Cx} {hm : Bool} {n : Nat} {sc : Scope} {nm : List Str} {h₀ : Heap} {f₀ : List Addr} {env : Env} {Γ Γ' Γ'' : G} {vf vf' vf'' : Nat → Value × List Addr} {s s' s'' : Shared}

/-- a write at a list inside an owned list; its lists stay -/
theorem writeIn {i : Nat} {a b : Addr} {t : List Addr} {xs ds' : List D} {lv : Nat} {vs' : Array Value} {h' : Heap} (iv : Iv c h₀ f₀ env nm Γ vf s) (hi : Γ[i]? = some (some (.list xs, lv))) (h2 : 2 ≤ lv) (hfp : (vf i).2 = a :: t) (hv : (vf i).1 = .ref a) (hb : b ∈ t)
    (hs' : Heap.SameBut b s.heap h') (hl : h'.IsList b vs') (hnd : Nd h' b) (hr : Rp c.mg h' (.ref a) (.list ds') (a :: t)) :
    Stp c h₀ f₀ env nm Γ vf s (Γ.set i (some (.list ds', lv))) (fun j => if j = i then (.ref a, a :: t) else vf j) { s with heap := h' } := by
  obtain ⟨o1, o2⟩ := iv.own2 i _ lv hi h2
  have hbi : b ∈ (vf i).2 := by rw [hfp]; exact List.mem_cons_of_mem _ hb
  have hbo := o1 b hbi
  have W := iv.wr (iv.al i b hbi) hbo.1 hs' hl hnd
  have hOwn : ∀ q ∈ a :: t, Own Γ vf q := fun q hq => ⟨i, _, lv, hi, .inr ⟨h2, by rw [hfp]; exact hq⟩⟩
  refine iv.upd (s' := { s with heap := h' }) ⟨h', s.toks, rfl⟩ W.gd W.ns W.ce (KpP.of_but fun q o hq e => hs'.extBut q o (fun w => hq (.inr (.inr (w ▸ hOwn b (List.mem_cons_of_mem _ hb))))) e) W.res (fun j q hq => W.al q (iv.al j q hq)) _ i (v := .ref a) (d := .list ds') (fp := a :: t) (lv := lv)
    (fun j d' lv' e => (set_get e).imp id fun ⟨q, e⟩ => ⟨q, lv', Nat.le_refl _, e⟩)
    (fun j d' lv' hji e => ?_) ?_ hr (fun q hq => .inl (o1 q (by rw [hfp]; exact hq)).1) (fun _ q t' e => ?_) (fun _ => ?_) (fun q hq => W.nd q hq) (fun q _ j d' lv' hji e hown hm => ?_) (fun _ q t' e => .inl (hOwn q (by rw [e]; exact List.mem_cons_self ..))) (fun _ q hq => .inl (hOwn q hq))
  · rcases set_get e with ⟨q, _⟩ | ⟨_, e⟩
    · exact absurd q hji
    · obtain ⟨y, z1, z2, z3⟩ := iv.rd.var j d' lv' e
      exact ⟨y, z1, W.bd y _ z2, W.keep z3 (hbo.2.2 j hji)⟩
  · obtain ⟨x, z1, z2, _⟩ := iv.rd.var i _ lv hi
    exact ⟨x, z1, W.bd x _ (hv ▸ z2)⟩
  · cases e
    have := o1 a (by rw [hfp]; exact List.mem_cons_self ..)
    rw [hfp] at o2
    exact ⟨this.1, (List.nodup_cons.mp o2).1, W.nd a this.2.1, this.2.2⟩
  · refine ⟨fun q hq => ?_, hfp ▸ o2⟩
    have := o1 q (by rw [hfp]; exact hq)
    exact ⟨this.1, W.nd q this.2.1, this.2.2⟩
  · rcases set_get e with ⟨w, _⟩ | ⟨_, e⟩
    · exact absurd w hji
    · have hq : q ∈ (vf i).2 := by rw [hfp]; exact hm
      rcases hown with ⟨y1, t'', y2⟩ | ⟨y1, y2⟩
      · exact (iv.own1 j d' lv' e y1 q t'' y2).2.2.2 i (fun w => hji w.symm) hq
      · exact ((iv.own2 j d' lv' e y1).1 q y2).2.2 i (fun w => hji w.symm) hq

/-- the last list inside an owned list -/
theorem Iv.lastIn (iv : Iv c h₀ f₀ env nm Γ vf s) {i : Nat} {xs : List D} {ys : List D} {lv : Nat} (hi : Γ[i]? = some (some (.list (xs ++ [.list ys]), lv))) (h2 : 2 ≤ lv) :
    ∃ a b t0 tb vs0 ws x, (vf i).1 = .ref a ∧ (vf i).2 = a :: (t0 ++ b :: tb) ∧ s.heap.IsList a (vs0 ++ [Value.ref b]).toArray ∧ s.heap.IsList b ws ∧ Nd s.heap b ∧ Rps c.mg s.heap vs0 xs t0 ∧ Rps c.mg s.heap ws.toList ys tb ∧ nm[i]? = some x ∧ Bd env s.heap x (.ref a) ∧
      a ∉ t0 ++ b :: tb ∧ b ∉ t0 ∧ b ∉ tb ∧ b ≠ a ∧ ∀ j, j ≠ i → b ∉ (vf j).2 := by
  obtain ⟨a, t, vs, x, e1, e2, hl, hnd, hrs, e3, hb, hat, haj⟩ := iv.lst hi (by omega)
  obtain ⟨o1, o2⟩ := iv.own2 i _ lv hi h2
  obtain ⟨vs0, v, t0, f, q1, q2, r0, r1⟩ := hrs.snoc_inv
  cases r1 with
  | @list b o ws k _ tb h1 h2' h3 h4 =>
  subst q2
  rw [e2] at o1 o2
  have hbm : b ∈ t0 ++ b :: tb := List.mem_append_right _ (List.mem_cons_self ..)
  have hbo := o1 b (List.mem_cons_of_mem _ hbm)
  obtain ⟨n1, n2⟩ := List.nodup_cons.mp o2
  obtain ⟨_, n3, n4⟩ := List.nodup_append.mp n2
  have hvs : vs = (vs0 ++ [Value.ref b]).toArray := by apply Array.toList_inj.mp; rw [q1]
  subst hvs
  exact ⟨a, b, t0, tb, vs0, ws, x, e1, e2, hl, ⟨_, h1, h2', _, h3⟩, hbo.2.1, r0, h4, e3, hb, hat, fun w => n4 b w b (List.mem_cons_self ..) rfl, (List.nodup_cons.mp n3).1, fun w => hat (w ▸ hbm), hbo.2.2⟩

/-- x[-1] -/
theorem last_at {x : Str} {ie : Expr} {px spos : Pos} {occ2 : List Nat} {g : G → Option (R (D × Nat))} {A : Around} {l : List Env} {a : Addr} {vs0 : List Value} {v : Value} {lg : Nat} {Q : Value → Shared → Prop} {E : Value → Shared → Prop} (h2 : Den c hm n sc nm ie occ2 g) (hsl : NotSlice ie)
    (hsc : env.scope = sc) (hR : Room c hm n A l s.heap) (iv : Iv c h₀ f₀ env nm Γ vf s) (hg : g Γ = some (.ok (.int (-1), lg))) (hb : Bd env s.heap x (.ref a)) (hl : s.heap.IsList a (vs0 ++ [v]).toArray) (hlen : vs0.length ≤ 10000000)
    (hQ : ∀ s₁, St c env.locals s s₁ → Q v s₁) : wpAny (model c.prog c.w) A (eval (.Subscript (.Name x px) ie spos) env) Q E s := by
  obtain ⟨m, hn⟩ := iv.rd.ns
  refine Subscript_ (load_bd iv.rd.fn hb ?_)
  refine h2 A l env Γ vf s _ _ E hsc hR iv.rd hg (fun vb d lv fp s₁ e st rp tr lvl => ?_) fun x k s' e => by cases e
  cases e
  obtain ⟨tk, rfl, rfl⟩ := rp.inv
  have hl₁ := IsList.st st hn hl
  refine tail_any hl₁.typeIs slot_list_getitem.lookup ?_ (hsl _ _)
  exact wpAny_getItem_list_neg hl₁ (by decide) (by simp; omega) (by decide) (by simp; rw [show ((-1 : Int) + ((vs0.length : Int) + 1)).toNat = vs0.length by omega]; simp) (hQ s₁ st)

/-- found.append(words): words moves -/
noncomputable def appM (i j : Nat) (Γ : G) : Option O := match Γ[i]?, Γ[j]? with
  | some (some (.list xs, lv)), some (some (.list ws, lw)) => if i ≠ j ∧ 2 ≤ lv ∧ 2 ≤ lw ∧ xs.length ≤ lim then some (.next ((Γ.set j none).set i (some (.list (xs ++ [.list ws]), 2)))) else none
  | _, _ => none
theorem denS_appmove {x y : Str} {px py apos cpos pos : Pos} (i j : Nat) (hx : nm[i]? = some x := by rfl) (hy : nm[j]? = some y := by rfl)
    (hi : ∀ env : Env, env.scope = sc → interactive env = false := by intro _ h; unfold interactive; rw [h]; rfl) (hmf : MethForm (.Name x px) "append" apos [.Name y py] cpos := by intro _; rfl) :
    DenS c hm n sc nm (.Expr (.Call (.Attribute (.Name x px) "append" apos) [.Name y py] [] cpos) pos) (appM i j) := by
  intro A l env h₀ f₀ Γ vf s r Q E hsF hR iv hf hQ hE
  have hsc := hsF.1
  unfold appM at hf
  split at hf
  · rename_i xs lv ws lw hgi hgj
    split at hf
    · rename_i hc
      obtain ⟨hij, h1, h2, hlen⟩ := hc
      obtain rfl := Option.some.inj hf
      obtain ⟨a, t, vs, x', e1, e2, hl, hnd, hrs, e3, hb, hat, haj⟩ := iv.lst hgi (by omega)
      rw [hx] at e3; obtain rfl := Option.some.inj e3
      obtain ⟨y', e4, hby, rj⟩ := iv.rd.var j _ lw hgj
      rw [hy] at e4; obtain rfl := Option.some.inj e4
      obtain ⟨o, k, o1, o2, o3, o4⟩ := IsList.get hl hnd
      refine wpAny_Expr_any ?_ (hi env hsc)
      refine MethodCall_ (load_bd iv.rd.fn hb (getMethod_list_append o1 o2 o4 ?_)) (hmf env)
      refine callWith_method1 (args_cons (load_bd iv.rd.fn hby (args_nil ?_)) rfl) rfl
      have hsz : vs.size = xs.length := by simpa using hrs.length
      refine list_append hl hnd (fun h' hl' hnd' hs' => ?_) (by rw [hsz]; unfold lim at hlen; unfold sizeLine; omega)
      exact hQ _ _ ⟨_, moveIn iv hgi h1 hgj h2 hij e2 e1 hrs hs' hl' hnd'⟩
    · exact nos hf
  · exact nos hf

noncomputable def last2 (xs : List D) : Option (List D × List D) := match xs.getLast? with
  | some (.list ys) => some (xs.dropLast, ys)
  | _ => none
theorem last2_eq {xs x0 ys : List D} (h : last2 xs = some (x0, ys)) : xs = x0 ++ [.list ys] := by
  unfold last2 at h
  split at h
  · rename_i zs hz
    cases h
    have hne : xs ≠ [] := fun e => by subst e; exact nos hz
    rw [List.getLast?_eq_some_getLast hne] at hz
    have := List.dropLast_concat_getLast hne
    rw [Option.some.inj hz] at this
    exact this.symm
  · exact nos h
/-- x[-1].append(e), a flat e -/
noncomputable def app2F (i : Nat) (g f : G → Option (R (D × Nat))) (Γ : G) : Option O := match Γ[i]?, g Γ with
  | some (some (.list xs, lv)), some (.ok (.int (-1), _)) => match last2 xs with
    | some (x0, ys) => if 2 ≤ lv ∧ xs.length ≤ lim ∧ ys.length ≤ lim then bindE (f Γ) Γ fun a => if a.1.flat then some (.next (Γ.set i (some (.list (x0 ++ [.list (ys ++ [a.1])]), lv)))) else none else none
    | none => none
  | _, _ => none
/-- x[-1].extend(y), a list y of flat things -/
noncomputable def ext2F (i : Nat) (g f : G → Option (R (D × Nat))) (Γ : G) : Option O := match Γ[i]?, g Γ with
  | some (some (.list xs, lv)), some (.ok (.int (-1), _)) => match last2 xs with
    | some (x0, ys) => if 2 ≤ lv ∧ xs.length ≤ lim ∧ ys.length ≤ 1000000 then bindE (f Γ) Γ fun a => (match a.1 with
      | .list zs => if D.flats zs = true ∧ zs.length ≤ 1000000 then some (.next (Γ.set i (some (.list (x0 ++ [.list (ys ++ zs)]), lv)))) else none
      | _ => none) else none
    | none => none
  | _, _ => none

theorem denS_append2 {x : Str} {e ie : Expr} {px spos apos cpos pos : Pos} {occ occ2 : List Nat} {f g : G → Option (R (D × Nat))} (i : Nat) (h2 : Den c hm n sc nm ie occ2 g) (h : Den c hm n sc nm e occ f) (hx : nm[i]? = some x := by rfl) (hs : NotStar e := by intro _ _; rfl) (hsl : NotSlice ie := by intro _ _; rfl)
    (hi : ∀ env : Env, env.scope = sc → interactive env = false := by intro _ h; unfold interactive; rw [h]; rfl) (hmf : MethForm (.Subscript (.Name x px) ie spos) "append" apos [e] cpos := by intro _; rfl) :
    DenS c hm n sc nm (.Expr (.Call (.Attribute (.Subscript (.Name x px) ie spos) "append" apos) [e] [] cpos) pos) (app2F i g f) := by
  intro A l env h₀ f₀ Γ vf s r Q E hsF hR iv hf hQ hE
  have hsc := hsF.1
  obtain ⟨m, hn⟩ := iv.rd.ns
  unfold app2F at hf
  split at hf
  · rename_i xs lv lg hgi hg
    split at hf
    · rename_i x0 ys hl2
      have hxs := last2_eq hl2
      subst hxs
      split at hf
      · rename_i hc
        obtain ⟨h1, hlen, hly⟩ := hc
        obtain ⟨a, b, t0, tb, vs0, ws, x', e1, e2, hla, hlb, hnd, r0, rb, e3, hb, ha1, hb1, hb2, hba, hbj⟩ := iv.lastIn hgi h1
        rw [hx] at e3; obtain rfl := Option.some.inj e3
        have hv0 : vs0.length ≤ 10000000 := by have := r0.length; rw [List.length_append] at hlen; unfold lim at hlen; omega
        refine wpAny_Expr_any ?_ (hi env hsc)
        refine MethodCall_ (last_at h2 hsl hsc hR iv hg hb hla hv0 fun s₁ st₁ => ?_) (hmf env)
        have hlb₁ := IsList.st st₁ hn hlb
        have hnd₁ := hnd.keep st₁.kp hn
        obtain ⟨o, k, o1, o2, o3, o4⟩ := IsList.get hlb₁ hnd₁
        refine getMethod_list_append o1 o2 o4 ?_
        have iv₁ := iv.keep st₁
        have sp₁ := iv.step st₁
        refine callWith_method1 (denA_one h hs hsc (sp₁.room iv hR) iv₁ hf (fun d ld _ hg v fp s₂ st₂ rp tr lvl => ?_) (fun x s' q => hE x s' (q.back sp₁))) (hs _ _)
        dsimp only at hg
        split at hg
        · rename_i hfl
          obtain rfl := Option.some.inj hg
          have hfp := rp.flat_fp hfl
          subst hfp
          have st := st₁.trans st₂
          have iv₂ := iv.keep st
          have hlb₂ := IsList.st st hn hlb
          have hla₂ := IsList.st st hn hla
          have hsz : ws.size = ys.length := by simpa using rb.length
          refine list_append hlb₂ (hnd.keep st.kp hn) (fun h' hl' hnd' hs' => ?_) (by rw [hsz]; unfold lim at hly; unfold sizeLine; omega)
          have W := iv₂.wr (iv₂.al i b (by rw [e2]; simp)) ((iv₂.own2 i _ lv hgi h1).1 b (by rw [e2]; simp)).1 hs' hl' hnd'
          refine hQ _ _ ⟨_, (iv.step st).trans (writeIn (b := b) (t := t0 ++ b :: tb) iv₂ hgi h1 e2 e1 (by simp) hs' hl' hnd' ?_)⟩
          obtain ⟨oa, p1, p2, ka, p3⟩ := hla₂
          obtain ⟨ob, q1, q2, kb, q3⟩ := hl'
          refine .list (hs'.extBut a oa (fun w => hba w.symm) p1) p2 p3 ?_
          show Rps c.mg h' (vs0 ++ [.ref b]) _ _
          refine (W.keeps (st.kp.rps hn r0) hb1).append (f := t0) (g := b :: tb) ?_
          have hrb : Rps c.mg h' (ws.push v).toList (ys ++ [d]) (tb ++ []) := by
            rw [Array.toList_push]; exact (W.keeps (st.kp.rps hn rb) hb2).append (Rps.one (W.keep rp (by simp)))
          rw [List.append_nil] at hrb
          have := Rps.one (Rp.list q1 q2 q3 hrb)
          exact this
        · exact nos hg
      · exact nos hf
    · exact nos hf
  · exact nos hf

theorem denS_extend2 {x : Str} {e ie : Expr} {px spos apos cpos pos : Pos} {occ occ2 : List Nat} {f g : G → Option (R (D × Nat))} (i : Nat) (h2 : Den c hm n sc nm ie occ2 g) (h : Den c hm n sc nm e occ f) (hx : nm[i]? = some x := by rfl) (hio : occ.contains i = false := by rfl) (hs : NotStar e := by intro _ _; rfl) (hsl : NotSlice ie := by intro _ _; rfl)
    (hi : ∀ env : Env, env.scope = sc → interactive env = false := by intro _ h; unfold interactive; rw [h]; rfl) (hmf : MethForm (.Subscript (.Name x px) ie spos) "extend" apos [e] cpos := by intro _; rfl) :
    DenS c hm n sc nm (.Expr (.Call (.Attribute (.Subscript (.Name x px) ie spos) "extend" apos) [e] [] cpos) pos) (ext2F i g f) := by
  intro A l env h₀ f₀ Γ vf s r Q E hsF hR iv hf hQ hE
  have hsc := hsF.1
  obtain ⟨m, hn⟩ := iv.rd.ns
  unfold ext2F at hf
  split at hf
  · rename_i xs lv lg hgi hg
    split at hf
    · rename_i x0 ys hl2
      have hxs := last2_eq hl2
      subst hxs
      split at hf
      · rename_i hc
        obtain ⟨h1, hlen, hly⟩ := hc
        obtain ⟨a, b, t0, tb, vs0, ws, x', e1, e2, hla, hlb, hnd, r0, rb, e3, hb, ha1, hb1, hb2, hba, hbj⟩ := iv.lastIn hgi h1
        rw [hx] at e3; obtain rfl := Option.some.inj e3
        have hv0 : vs0.length ≤ 10000000 := by have := r0.length; rw [List.length_append] at hlen; unfold lim at hlen; omega
        refine wpAny_Expr_any ?_ (hi env hsc)
        refine MethodCall_ (last_at h2 hsl hsc hR iv hg hb hla hv0 fun s₁ st₁ => ?_) (hmf env)
        have hlb₁ := IsList.st st₁ hn hlb
        have hnd₁ := hnd.keep st₁.kp hn
        obtain ⟨o, k, o1, o2, o3, o4⟩ := IsList.get hlb₁ hnd₁
        refine getMethod_list_extend o1 o2 o4 ?_
        have iv₁ := iv.keep st₁
        have sp₁ := iv.step st₁
        refine callWith_method1 (denA_one h hs hsc (sp₁.room iv hR) iv₁ hf (fun d ld _ hg v fp s₂ st₂ rp tr lvl => ?_) (fun x s' q => hE x s' (q.back sp₁))) (hs _ _)
        dsimp only at hg
        split at hg
        · rename_i zs _
          split at hg
          · rename_i hc2
            obtain ⟨hfl, hlz⟩ := hc2
            obtain rfl := Option.some.inj hg
            obtain @⟨w, ow, vw, kw, fw, g1, g2, g3, g4⟩ := rp.inv
            have hfw := g4.flat_fp hfl
            subst hfw
            have st := st₁.trans st₂
            have iv₂ := iv.keep st
            have hlb₂ := IsList.st st hn hlb
            have hla₂ := IsList.st st hn hla
            have hsz : ws.size = ys.length := by simpa using rb.length
            have hszw : vw.size = zs.length := by simpa using g4.length
            refine list_extend hlb₂ (hnd.keep st.kp hn) ⟨_, g1, g2, _, g3⟩ (by omega) (by omega) (fun h' hl' hnd' hs' => ?_)
            have W := iv₂.wr (iv₂.al i b (by rw [e2]; simp)) ((iv₂.own2 i _ lv hgi h1).1 b (by rw [e2]; simp)).1 hs' hl' hnd'
            refine hQ _ _ ⟨_, (iv.step st).trans (writeIn (b := b) (t := t0 ++ b :: tb) iv₂ hgi h1 e2 e1 (by simp) hs' hl' hnd' ?_)⟩
            obtain ⟨oa, p1, p2, ka, p3⟩ := hla₂
            obtain ⟨ob, q1, q2, kb, q3⟩ := hl'
            refine .list (hs'.extBut a oa (fun w => hba w.symm) p1) p2 p3 ?_
            show Rps c.mg h' (vs0 ++ [.ref b]) _ _
            refine (W.keeps (st.kp.rps hn r0) hb1).append (f := t0) (g := b :: tb) ?_
            have hrb : Rps c.mg h' (ws ++ vw).toList (ys ++ zs) (tb ++ []) := by
              rw [Array.toList_append]; exact (W.keeps (st.kp.rps hn rb) hb2).append (W.keeps g4 (by simp))
            rw [List.append_nil] at hrb
            exact Rps.one (Rp.list q1 q2 q3 hrb)
          · exact nos hg
        · exact nos hg
      · exact nos hf
    · exact nos hf
  · exact nos hf
end
end Mine
namespace Mine
open PySem

-- words and paragraphs of a text
noncomputable def replN (t : List Nat) : List Nat := t.map fun k => if k = 10 then 32 else k
noncomputable def wordsN (t : List Nat) : List (List Nat) := (splitN 32 (replN t)).filter (· ≠ [])
abbrev Para := List (List Nat)
noncomputable def appP (P : List Para) (ws : Para) : List Para := P.dropLast ++ [P.getLast?.getD [] ++ ws]
noncomputable def pstep (p : List Para × Bool) (ws : Para) : List Para × Bool := if ws = [] then (p.1, false) else if p.2 then (appP p.1 ws, true) else (p.1 ++ [ws], true)
noncomputable def parasN (t : List Nat) : List Para := (((splitN 10 t).map wordsN).foldl pstep ([], false)).1
structure CS where
  parts : List Para
  held : List Nat
  word : Bool
  row : Bool
noncomputable def cstep (σ : CS) (ch : Nat) : CS :=
  if ch ≠ 32 ∧ ch ≠ 10 then ⟨if σ.held = [] ∧ σ.row = false then σ.parts ++ [[]] else σ.parts, σ.held ++ [ch], true, true⟩
  else ⟨if σ.held = [] then σ.parts else appP σ.parts [σ.held], [], if ch = 10 then false else σ.word, if ch = 10 then (if σ.word then σ.row else false) else σ.row⟩
theorem splitN_free' {c : Nat} : ∀ (h : List Nat), (∀ k ∈ h, k ≠ c) → ∀ r, splitN c (h ++ c :: r) = h :: splitN c r
  | [], _, r => by simp [splitN]
  | x :: h, hx, r => by
    have := splitN_free' h (fun k hk => hx k (List.mem_cons_of_mem _ hk)) r
    rw [List.cons_append, splitN, if_neg (hx x (List.mem_cons_self ..)), this]
theorem splitN_free0 {c : Nat} : ∀ (h : List Nat), (∀ k ∈ h, k ≠ c) → splitN c h = [h]
  | [], _ => rfl
  | x :: h, hx => by rw [splitN, if_neg (hx x (List.mem_cons_self ..)), splitN_free0 h fun k hk => hx k (List.mem_cons_of_mem _ hk)]
theorem splitN_some {c : Nat} : ∀ (h : List Nat), (∀ k ∈ h, k ≠ c) → ∀ r, ∃ p ps, splitN c (h ++ r) = (h ++ p) :: ps
  | [], _, r => by
    cases hr : splitN c r with
    | nil => cases r with
      | nil => simp [splitN] at hr
      | cons x r =>
        rw [splitN] at hr
        split at hr
        · cases hr
        · split at hr <;> cases hr
    | cons p ps => exact ⟨p, ps, by simpa using hr⟩
  | x :: h, hx, r => by
    obtain ⟨p, ps, e⟩ := splitN_some h (fun k hk => hx k (List.mem_cons_of_mem _ hk)) r
    exact ⟨p, ps, by rw [List.cons_append, splitN, if_neg (hx x (List.mem_cons_self ..)), e]; rfl⟩
noncomputable def wsF (t : List Nat) : Para := (splitN 32 t).filter (· ≠ [])
theorem wsF_ne {h r : List Nat} (hh : h ≠ []) (hx : ∀ k ∈ h, k ≠ 32) : wsF (h ++ r) ≠ [] := by
  obtain ⟨p, ps, e⟩ := splitN_some h hx r
  unfold wsF
  rw [e, List.filter_cons_of_pos (by simp [hh])]
  simp
theorem appP_app (P : List Para) (a b : Para) : appP (appP P a) b = appP P (a ++ b) := by
  unfold appP; simp [List.append_assoc]
theorem appP_new (P : List Para) (a : Para) : appP (P ++ [[]]) a = P ++ [a] := by unfold appP; simp
theorem row_go : ∀ (r : List Nat) (Q : List Para) (h : List Nat) (seen g : Bool), (∀ k ∈ r, k ≠ 10) → (∀ k ∈ h, k ≠ 32) → (h ≠ [] → seen = true) →
    (r ++ [10]).foldl cstep ⟨Q, h, seen, seen || g⟩ = if wsF (h ++ r) = [] then ⟨Q, [], false, seen⟩ else ⟨appP (if seen || g then Q else Q ++ [[]]) (wsF (h ++ r)), [], false, true⟩ := by
  intro r
  induction r with
  | nil =>
    intro Q h seen g _ hh hs
    rw [List.nil_append, List.foldl_cons, List.foldl_nil, List.append_nil]
    by_cases h0 : h = []
    · subst h0
      rw [if_pos (by simp [wsF, splitN])]
      cases seen <;> simp [cstep]
    · have hseen := hs h0
      have hw : wsF h = [h] := by unfold wsF; rw [splitN_free0 h hh]; simp [h0]
      rw [if_neg (by rw [hw]; simp), hw, hseen]
      simp [cstep, h0]
  | cons ch r ih =>
    intro Q h seen g hr hh hs
    have hch : ch ≠ 10 := hr ch (List.mem_cons_self ..)
    have hr' : ∀ k ∈ r, k ≠ 10 := fun k hk => hr k (List.mem_cons_of_mem _ hk)
    rw [List.cons_append, List.foldl_cons]
    by_cases h32 : ch = 32
    · subst h32
      by_cases h0 : h = []
      · subst h0
        have e : cstep ⟨Q, [], seen, seen || g⟩ 32 = ⟨Q, [], seen, seen || g⟩ := by simp [cstep]
        rw [e, ih Q [] seen g hr' (by simp) (by simp)]
        have hw : wsF ([] ++ 32 :: r) = wsF ([] ++ r) := by simp [wsF, splitN]
        rw [hw]
      · have hseen := hs h0
        subst hseen
        have e : cstep ⟨Q, h, true, true || g⟩ 32 = ⟨appP Q [h], [], true, true || g⟩ := by simp [cstep, h0]
        rw [e, ih (appP Q [h]) [] true g hr' (by simp) (fun _ => rfl)]
        have hw : wsF (h ++ 32 :: r) = h :: wsF r := by unfold wsF; rw [splitN_free' h hh, List.filter_cons_of_pos (by simp [h0])]
        rw [hw, List.nil_append, if_neg (List.cons_ne_nil _ _)]
        by_cases hr0 : wsF r = []
        · rw [if_pos hr0, hr0]; simp
        · rw [if_neg hr0]
          simp only [Bool.true_or, if_true]
          rw [appP_app]; rfl
    · have e : cstep ⟨Q, h, seen, seen || g⟩ ch = ⟨if h = [] ∧ (seen || g) = false then Q ++ [[]] else Q, h ++ [ch], true, true || g⟩ := by simp [cstep, h32, hch]
      have hh' : ∀ k ∈ h ++ [ch], k ≠ 32 := fun k hk => by
        rcases List.mem_append.mp hk with hk | hk
        · exact hh k hk
        · rw [List.mem_singleton.mp hk]; exact h32
      rw [e, ih _ (h ++ [ch]) true g hr' hh' (fun _ => rfl)]
      have hw : h ++ [ch] ++ r = h ++ ch :: r := by simp
      rw [hw]
      have hne : wsF (h ++ ch :: r) ≠ [] := by rw [← hw]; exact wsF_ne (by simp) hh'
      rw [if_neg hne, if_neg hne]
      simp only [Bool.true_or, if_true]
      congr 2
      by_cases h0 : h = []
      · cases hsg : (seen || g) <;> simp [h0]
      · have hseen := hs h0
        subst hseen
        simp [h0]
theorem rows_no {c : Nat} : ∀ (t : List Nat), ∀ r ∈ splitN c t, ∀ k ∈ r, k ≠ c
  | [], r, hr => by simp [splitN] at hr; subst hr; simp
  | x :: t, r, hr => by
    rw [splitN] at hr
    have ih := rows_no (c := c) t
    split at hr
    · rcases List.mem_cons.mp hr with rfl | hr
      · simp
      · exact ih r hr
    · rename_i hx
      split at hr
      · rename_i he
        rw [List.mem_singleton.mp hr]
        intro k hk; rw [List.mem_singleton.mp hk]; exact hx
      · rename_i p ps he
        rcases List.mem_cons.mp hr with rfl | hr
        · intro k hk
          rcases List.mem_cons.mp hk with rfl | hk
          · exact hx
          · exact ih p (by rw [he]; exact List.mem_cons_self ..) k hk
        · exact ih r (by rw [he]; exact List.mem_cons_of_mem _ hr)
theorem rows_flat (t : List Nat) : (splitN 10 t).flatMap (· ++ [10]) = t ++ [10] := by
  induction t with
  | nil => simp [splitN]
  | cons x t ih =>
    rw [splitN]
    split
    · rename_i hx; rw [List.flatMap_cons, ih, hx]; rfl
    · split
      · rename_i he; rw [he] at ih; simp at ih
      · rename_i p ps he
        rw [he] at ih
        rw [List.flatMap_cons] at ih ⊢
        rw [List.cons_append, List.cons_append, ih]; rfl
theorem wordsN_row {r : List Nat} (h : ∀ k ∈ r, k ≠ 10) : wordsN r = wsF r := by
  have : replN r = r := by
    unfold replN
    conv => rhs; rw [← List.map_id r]
    apply List.map_congr_left
    intro k hk; rw [if_neg (h k hk)]; rfl
  unfold wordsN wsF; rw [this]
theorem rows_fold : ∀ (rows : List (List Nat)) (P : List Para) (g : Bool), (∀ r ∈ rows, ∀ k ∈ r, k ≠ 10) →
    (rows.flatMap (· ++ [10])).foldl cstep ⟨P, [], false, g⟩ = ⟨((rows.map wordsN).foldl pstep (P, g)).1, [], false, ((rows.map wordsN).foldl pstep (P, g)).2⟩
  | [], P, g, _ => rfl
  | r :: rows, P, g, h => by
    have hr := h r (List.mem_cons_self ..)
    have h1 := row_go r P [] false g hr (by simp) (by simp)
    rw [List.flatMap_cons, List.foldl_append]
    simp only [Bool.false_or, List.nil_append] at h1
    rw [h1, List.map_cons, List.foldl_cons, wordsN_row hr]
    have ih := fun P g => rows_fold rows P g fun r hr => h r (List.mem_cons_of_mem _ hr)
    by_cases hw : wsF r = []
    · rw [if_pos hw, ih, hw]; simp [pstep]
    · rw [if_neg hw, ih]
      cases g
      · simp only [Bool.false_eq_true, if_false]
        rw [appP_new]
        simp [pstep, hw]
      · simp only [if_true]
        simp [pstep, hw]
theorem parts_eq (t : List Nat) : ((t ++ [10]).foldl cstep ⟨[], [], false, false⟩).parts = parasN t := by
  rw [← rows_flat, rows_fold _ _ _ (rows_no t)]; rfl
/-- what stands while the signs are walked -/
noncomputable def CI (k : Nat) (σ : CS) : Prop := (σ.row = true → σ.parts ≠ []) ∧ (σ.held ≠ [] → σ.parts ≠ []) ∧ σ.parts.length ≤ k ∧ σ.held.length ≤ k ∧ ∀ p ∈ σ.parts, p.length ≤ k
theorem appP_ne (P : List Para) (a : Para) : appP P a ≠ [] := by unfold appP; simp
theorem appP_mem {P : List Para} {a p : Para} {k : Nat} (h : ∀ p ∈ P, p.length ≤ k) (hp : p ∈ appP P a) : p.length ≤ k + a.length := by
  unfold appP at hp
  rcases List.mem_append.mp hp with hp | hp
  · have := h p ((List.dropLast_sublist P).subset hp); omega
  · rw [List.mem_singleton.mp hp, List.length_append]
    cases hq : P.getLast? with
    | none => simp
    | some q => have := h q (List.mem_of_getLast? hq); simp; omega
theorem appP_len (P : List Para) (a : Para) (h : P ≠ []) : (appP P a).length = P.length := by
  have := List.length_pos_iff.mpr h
  unfold appP; rw [List.length_append, List.length_dropLast]; simp; omega
theorem CI.step {k : Nat} {σ : CS} (h : CI k σ) (ch : Nat) : CI (k + 1) (cstep σ ch) := by
  obtain ⟨P, hd, wd, rw'⟩ := σ
  obtain ⟨h1, h2, h3, h4, h5⟩ := h
  dsimp only at h1 h2 h3 h4 h5
  unfold cstep
  by_cases hc : ch ≠ 32 ∧ ch ≠ 10
  · rw [if_pos hc]
    dsimp only
    have hne : (if hd = [] ∧ rw' = false then P ++ [[]] else P) ≠ [] := by
      by_cases h0 : hd = [] ∧ rw' = false
      · rw [if_pos h0]; simp
      · rw [if_neg h0]
        by_cases h6 : hd = []
        · exact h1 (by cases hr : rw' <;> simp_all)
        · exact h2 h6
    refine ⟨fun _ => hne, fun _ => hne, ?_, by simp; omega, fun p hp => ?_⟩
    · dsimp only; split <;> (try simp) <;> omega
    · dsimp only at hp
      split at hp
      · rcases List.mem_append.mp hp with hp | hp
        · have := h5 p hp; omega
        · rw [List.mem_singleton.mp hp]; simp
      · have := h5 p hp; omega
  · rw [if_neg hc]
    by_cases h0 : hd = []
    · rw [if_pos h0]
      refine ⟨fun hr => h1 ?_, fun hr => absurd rfl hr, by dsimp only; omega, by simp, fun p hp => by have := h5 p hp; omega⟩
      dsimp only at hr
      split at hr
      · split at hr
        · exact hr
        · cases hr
      · exact hr
    · rw [if_neg h0]
      have hP := h2 h0
      refine ⟨fun _ => appP_ne _ _, fun hr => absurd rfl hr, by dsimp only; rw [appP_len P _ hP]; omega, by simp, fun p hp => ?_⟩
      have := appP_mem h5 hp
      simpa using this
theorem CI.fold : ∀ (l : List Nat) (k : Nat) (σ : CS), CI k σ → CI (k + l.length) (l.foldl cstep σ)
  | [], k, σ, h => h
  | ch :: l, k, σ, h => by
    have := CI.fold l (k + 1) (cstep σ ch) (h.step ch)
    rw [List.foldl_cons, List.length_cons, show k + (l.length + 1) = k + 1 + l.length by omega]
    exact this
noncomputable def paraD (p : Para) : D := .list (p.map .str)
theorem last2_para {P : List Para} (h : P ≠ []) : last2 (P.map paraD) = some (P.dropLast.map paraD, (P.getLast?.getD []).map .str) := by
  unfold last2
  have hh : P.getLast? = some (P.getLast h) := List.getLast?_eq_some_getLast h
  rw [List.getLast?_map, hh]
  simp [paraD]
noncomputable def pyP (P : List Para) : D := .list (P.map paraD)
theorem app2F_para {i : Nat} {g f : G → Option (R (D × Nat))} {Γ : G} {P : List Para} {lg lf : Nat} {x : List Nat} (h1 : Γ[i]? = some (some (pyP P, 2))) (hg : g Γ = some (.ok (.int (-1), lg))) (hf : f Γ = some (.ok (.str x, lf))) (hP : P ≠ []) (hl : P.length ≤ lim) (hq : (P.getLast?.getD []).length ≤ lim) :
    app2F i g f Γ = some (.next (Γ.set i (some (pyP (appP P [x]), 2)))) := by
  unfold app2F
  rw [h1, hg]
  simp only [pyP]
  rw [last2_para hP]
  simp only
  rw [if_pos ⟨Nat.le_refl _, by rw [List.length_map]; exact hl, by rw [List.length_map]; exact hq⟩, hf, bindE_ok]
  simp only [D.flat, if_true]
  simp [appP, paraD]
theorem ext2F_para {i : Nat} {g f : G → Option (R (D × Nat))} {Γ : G} {P : List Para} {lg lf : Nat} {zs : List (List Nat)} (h1 : Γ[i]? = some (some (pyP P, 2))) (hg : g Γ = some (.ok (.int (-1), lg))) (hf : f Γ = some (.ok (.list (zs.map .str), lf))) (hP : P ≠ []) (hl : P.length ≤ lim) (hq : (P.getLast?.getD []).length ≤ 1000000) (hz : zs.length ≤ 1000000) :
    ext2F i g f Γ = some (.next (Γ.set i (some (pyP (appP P zs), 2)))) := by
  unfold ext2F
  rw [h1, hg]
  simp only [pyP]
  rw [last2_para hP]
  simp only
  rw [if_pos ⟨Nat.le_refl _, by rw [List.length_map]; exact hl, by rw [List.length_map]; exact hq⟩, hf, bindE_ok]
  simp only
  rw [if_pos ⟨flats_strs zs, by rw [List.length_map]; exact hz⟩]
  simp [appP, paraD]
theorem appM_para {i j : Nat} {Γ : G} {P : List Para} {ws : Para} (h1 : Γ[i]? = some (some (pyP P, 2))) (h2 : Γ[j]? = some (some (.list (ws.map .str), 2))) (hij : i ≠ j) (hl : P.length ≤ lim) : appM i j Γ = some (.next ((Γ.set j none).set i (some (pyP (P ++ [ws]), 2)))) := by
  unfold appM
  rw [h1, h2]
  simp only [pyP]
  rw [if_pos ⟨hij, Nat.le_refl _, Nat.le_refl _, by rw [List.length_map]; exact hl⟩, List.map_append]
  rfl
theorem appF_own {occ : List Nat} {i : Nat} {f : G → Option (R (D × Nat))} {Γ : G} {xs : List D} {lv : Nat} {d : D} (h1 : Γ[i]? = some (some (.list xs, lv))) (h2 : 1 ≤ lv) (h3 : xs.length ≤ lim) (h4 : f Γ = some (.ok (d, 2))) :
    appF occ i f Γ = some (.next (Γ.set i (some (.list (xs ++ [d]), lv)))) := by
  unfold appF
  rw [h1]; dsimp only
  rw [if_pos ⟨h2, h3⟩, h4, bindE_ok]
  unfold appV
  rw [if_pos (by simp)]
noncomputable def PI (k : Nat) (p : List Para × Bool) : Prop := (p.2 = true → p.1 ≠ []) ∧ p.1.length ≤ k ∧ ∀ q ∈ p.1, q.length ≤ k
theorem PI.step {k : Nat} {p : List Para × Bool} (h : PI k p) (ws : Para) : PI (k + (ws.length + 1)) (pstep p ws) := by
  obtain ⟨P, g⟩ := p
  obtain ⟨h1, h2, h3⟩ := h
  dsimp only at h1 h2 h3
  unfold pstep
  by_cases hw : ws = []
  · rw [if_pos hw]; exact ⟨(fun h => by cases h), by dsimp only; omega, fun q hq => by have := h3 q hq; omega⟩
  · rw [if_neg hw]
    dsimp only
    cases g
    · rw [if_neg (by decide)]
      refine ⟨fun _ => by simp, by simp; omega, fun q hq => ?_⟩
      rcases List.mem_append.mp hq with hq | hq
      · have := h3 q hq; omega
      · rw [List.mem_singleton.mp hq]; omega
    · rw [if_pos rfl]
      have hP := h1 rfl
      refine ⟨fun _ => appP_ne _ _, by dsimp only; rw [appP_len P _ hP]; omega, fun q hq => ?_⟩
      have := appP_mem h3 hq; omega
theorem wordsN_len (r : List Nat) : (wordsN r).length ≤ r.length + 1 := by
  unfold wordsN
  have h1 := List.length_filter_le (fun x => decide (x ≠ [])) (splitN 32 (replN r))
  have h2 := splitN_length 32 (replN r)
  have h3 : (replN r).length = r.length := by unfold replN; simp
  omega
theorem PI.fold : ∀ (l : List (List Nat)) (k : Nat) (p : List Para × Bool), PI k p → PI (k + ((l.map List.length).sum + 2 * l.length)) ((l.map wordsN).foldl pstep p)
  | [], k, p, h => h
  | r :: l, k, p, h => by
    have h1 := PI.fold l _ _ (h.step (wordsN r))
    have h2 := wordsN_len r
    obtain ⟨a, b, c⟩ := h1
    rw [List.map_cons, List.map_cons, List.foldl_cons, List.sum_cons, List.length_cons]
    exact ⟨a, by omega, fun q hq => by have := c q hq; omega⟩
theorem rows_sum (t : List Nat) : ((splitN 10 t).map List.length).sum + (splitN 10 t).length = t.length + 1 := by
  have := congrArg List.length (rows_flat t)
  rw [List.length_append, List.length_flatMap] at this
  simp only [List.length_append, List.length_cons, List.length_nil] at this
  rw [← this]
  generalize splitN 10 t = rows
  induction rows with
  | nil => rfl
  | cons r rows ih => simp only [List.map_cons, List.sum_cons, List.length_cons]; omega
theorem sum_prefix (l₁ l₂ : List (List Nat)) (r : List Nat) : (l₁.map List.length).sum ≤ ((l₁ ++ r :: l₂).map List.length).sum := by
  rw [List.map_append, List.sum_append_nat]; omega
end Mine
namespace Mine
open PySem

-- the same by the sum of the sizes
theorem mem_sum {ws : List (List Nat)} {x : List Nat} (h : x ∈ ws) : x.length ≤ (ws.map List.length).sum := by
  induction ws with
  | nil => cases h
  | cons y ws ih =>
    rw [List.map_cons, List.sum_cons]
    rcases List.mem_cons.mp h with rfl | h
    · omega
    · have := ih h; omega
theorem sum_sub {a b : List (List Nat)} (h : a.Sublist b) : (a.map List.length).sum ≤ (b.map List.length).sum := by
  induction h with
  | slnil => exact Nat.le_refl _
  | cons x _ ih => rw [List.map_cons, List.sum_cons]; omega
  | cons_cons x _ ih => rw [List.map_cons, List.map_cons, List.sum_cons, List.sum_cons]; omega
theorem sliceL_sub {α : Type} (l : List α) (lo hi : Option Int) : (sliceL l lo hi).Sublist l := (List.take_sublist _ _).trans (List.drop_sublist _ _)
theorem szI_leS {ws : List (List Nat)} (b e : Int) (hl : ws.length ≤ 90000) (hw : (ws.map List.length).sum ≤ 3000000) : szI ws b e ≤ 3090000 := by
  have h1 := sum_sub (sliceL_sub ws (some b) (some e))
  have h2 := sliceL_len ws (some b) (some e)
  unfold szI
  rw [joinN_len]
  simp only [List.length_cons, List.length_nil]
  omega
theorem sz_leS {ws : List (List Nat)} {b e : Nat} (hbe : b ≤ e) (he : e ≤ ws.length) (hl : ws.length ≤ 90000) (hw : (ws.map List.length).sum ≤ 3000000) : sz ws b e ≤ 3090000 := by
  rw [← szI_nat hbe he]; exact szI_leS _ _ hl hw
theorem slice_totalS {ws : List (List Nat)} (lo hi : Option Int) (hl : ws.length ≤ 90000) (hw : (ws.map List.length).sum ≤ 3000000) : totalN [32] (sliceL ws lo hi) ≤ lim := by
  have h1 := sum_sub (sliceL_sub ws lo hi)
  have h2 := sliceL_len ws lo hi
  unfold totalN lim
  simp only [List.length_cons, List.length_nil]
  omega
-- starts that fit are starts
theorem VS.asc {ws : List (List Nat)} {w : Int} {fs : List Nat} {m : Nat} (h : VS ws w fs m) : ∀ k, k + 1 < fs.length → fs.getD k 0 < fs.getD (k + 1) 0 := by
  intro k hk
  rcases h.2 with ⟨_, h2⟩ | ⟨_, _, h3⟩
  · subst h2; simp at hk
  · have := (h3 k (by omega)).1
    unfold nx at this
    rw [if_pos hk] at this; exact this
theorem VS.good {ws : List (List Nat)} {w : Int} {fs : List Nat} (h : VS ws w fs ws.length) : goodS (nz fs) ws.length = true := by
  have hasc := h.asc
  rcases h.2 with ⟨h1, h2⟩ | ⟨h1, h2, h3⟩
  · subst h2; simp [goodS, nz, h1]
  · have hp := List.length_pos_iff.mpr h1
    unfold goodS
    rw [if_neg (fun e => h1 (nz_nil.mp e))]
    have hd : descAt (nz fs) = none := by
      unfold descAt
      rw [List.find?_eq_none]
      intro i hi
      rw [nz_len] at hi
      have hi := List.mem_range.mp hi
      rw [nz_getD, nz_getD, Nat.add_comm 1 i]
      have := hasc i (by omega)
      simp only [decide_eq_true_eq]; omega
    have hlast : (nz fs).getLast?.getD 0 = (fs.getD (fs.length - 1) 0 : Nat) := by
      rw [List.getLast?_eq_getElem?, nz_len, ← nz_getD, List.getD_eq_getElem?_getD]
    have hl := (h3 (fs.length - 1) (by omega))
    unfold nx at hl
    rw [if_neg (by omega)] at hl
    rw [hd, hlast, nz_getD, h2]
    simp only [Option.isNone_none, Bool.and_true]
    simp
    have := hl.1
    simpa using this
-- all words of a text, by its paragraphs
theorem pstep_flat (p : List Para × Bool) (ws : Para) (h : p.2 = true → p.1 ≠ []) : (pstep p ws).1.flatten = p.1.flatten ++ ws := by
  obtain ⟨P, g⟩ := p
  unfold pstep
  by_cases hw : ws = []
  · rw [if_pos hw, hw]; simp
  · rw [if_neg hw]
    cases g
    · simp
    · have hP : P ≠ [] := h rfl
      simp only [if_true]
      unfold appP
      have hh : P.getLast? = some (P.getLast hP) := List.getLast?_eq_some_getLast hP
      conv => rhs; rw [← List.dropLast_concat_getLast hP]
      rw [hh]
      simp
theorem paras_flat : ∀ (rows : List Para) (p : List Para × Bool), (p.2 = true → p.1 ≠ []) → (rows.foldl pstep p).1.flatten = p.1.flatten ++ rows.flatten
  | [], p, _ => by simp
  | ws :: rows, p, h => by
    have hs : (pstep p ws).2 = true → (pstep p ws).1 ≠ [] := by
      unfold pstep
      by_cases hw : ws = []
      · rw [if_pos hw]; intro q; cases q
      · rw [if_neg hw]
        by_cases hg : p.2 = true
        · rw [if_pos hg]; intro _; exact appP_ne _ _
        · rw [if_neg hg]; intro _; simp
    rw [List.foldl_cons, paras_flat rows _ hs, pstep_flat p ws h, List.flatten_cons, List.append_assoc]
theorem splitN_two : ∀ (t : List Nat), wsF (replN t) = ((splitN 10 t).map wsF).flatten := by
  intro t
  have key : ∀ (t h : List Nat), (∀ k ∈ h, k ≠ 10) → wsF (h ++ replN t) = ((splitN 10 (h ++ t)).map wsF).flatten := by
    intro t
    induction t with
    | nil => intro h hh; simp only [replN, List.map_nil, List.append_nil]; rw [splitN_free0 h hh]; simp
    | cons x t ih =>
      intro h hh
      by_cases hx : x = 10
      · subst hx
        have e1 : replN (10 :: t) = 32 :: replN t := by simp [replN]
        rw [e1, splitN_free' h hh]
        rw [List.map_cons, List.flatten_cons]
        have := ih [] (by simp)
        simp only [List.nil_append] at this
        rw [← this]
        have hsp : ∀ (a b : List Nat), wsF (a ++ 32 :: b) = wsF a ++ wsF b := by
          intro a
          induction a with
          | nil => intro b; simp [wsF, splitN]
          | cons y a iha =>
            intro b
            by_cases hy : y = 32
            · subst hy
              have := iha b
              unfold wsF at this ⊢
              rw [List.cons_append, splitN, if_pos rfl, splitN, if_pos rfl]
              simp only [List.filter_cons, ne_eq, not_true_eq_false, decide_false, Bool.false_eq_true, if_false]
              exact this
            · unfold wsF
              unfold wsF at iha
              have hab := iha b
              rw [List.cons_append, splitN, if_neg hy, splitN, if_neg hy]
              cases ha : splitN 32 a with
              | nil =>
                exfalso
                obtain ⟨p, ps, e⟩ := splitN_some (c := 32) [] (by simp) a
                rw [List.nil_append] at e
                rw [ha] at e; cases e
              | cons p ps =>
                have hsplit : splitN 32 (a ++ 32 :: b) = (p :: ps) ++ splitN 32 b := by
                  have : ∀ (a b : List Nat), splitN 32 (a ++ 32 :: b) = splitN 32 a ++ splitN 32 b := by
                    intro a
                    induction a with
                    | nil => intro b; simp [splitN]
                    | cons z a ihz =>
                      intro b
                      rw [List.cons_append, splitN, splitN]
                      by_cases hz : z = 32
                      · rw [if_pos hz, if_pos hz, ihz]; rfl
                      · rw [if_neg hz, if_neg hz, ihz]
                        cases hq : splitN 32 a with
                        | nil =>
                          exfalso
                          obtain ⟨p, ps, e⟩ := splitN_some (c := 32) [] (by simp) a
                          rw [List.nil_append] at e
                          rw [hq] at e; cases e
                        | cons p ps => rfl
                  rw [this, ha]
                rw [hsplit]
                simp [List.filter_cons, List.filter_append]
        exact hsp h (replN t)
      · have e1 : replN (x :: t) = x :: replN t := by simp [replN, hx]
        rw [e1]
        have := ih (h ++ [x]) (fun k hk => by
          rcases List.mem_append.mp hk with hk | hk
          · exact hh k hk
          · rw [List.mem_singleton.mp hk]; exact hx)
        simpa using this
  have := key t [] (by simp)
  simpa using this
theorem words_flat (t : List Nat) : wordsN t = (parasN t).flatten := by
  unfold parasN
  rw [paras_flat _ _ (fun h => by cases h)]
  simp only [List.flatten_nil, List.nil_append]
  have h1 : wordsN t = wsF (replN t) := rfl
  rw [h1, splitN_two]
  congr 1
  apply List.map_congr_left
  intro r hr
  exact (wordsN_row (rows_no t r hr)).symm
end Mine
namespace Mine
open PySem

-- words of a text are good; a text of lines is read back
noncomputable def goodW (x : List Nat) : Prop := x ≠ [] ∧ ∀ k ∈ x, k ≠ 32 ∧ k ≠ 10
noncomputable def goodP (P : List Para) : Prop := ∀ p ∈ P, p ≠ [] ∧ ∀ x ∈ p, goodW x
theorem split_mem {c : Nat} (t : List Nat) {r : List Nat} (hr : r ∈ splitN c t) {k : Nat} (hk : k ∈ r) : k ∈ t := by
  induction t generalizing r with
  | nil => rw [splitN, List.mem_singleton] at hr; subst hr; exact hk
  | cons x t ih =>
    rw [splitN] at hr
    split at hr
    · rcases List.mem_cons.mp hr with rfl | hr
      · cases hk
      · exact List.mem_cons_of_mem _ (ih hr hk)
    · split at hr
      · rw [List.mem_singleton.mp hr] at hk; rw [List.mem_singleton.mp hk]; exact List.mem_cons_self ..
      · rename_i p ps he
        rcases List.mem_cons.mp hr with rfl | hr
        · rcases List.mem_cons.mp hk with rfl | hk
          · exact List.mem_cons_self ..
          · exact List.mem_cons_of_mem _ (ih (by rw [he]; exact List.mem_cons_self ..) hk)
        · exact List.mem_cons_of_mem _ (ih (by rw [he]; exact List.mem_cons_of_mem _ hr) hk)
theorem wordsN_good (t : List Nat) : ∀ x ∈ wordsN t, goodW x := by
  intro x hx
  obtain ⟨h1, h2⟩ := List.mem_filter.mp hx
  refine ⟨by simpa using h2, fun k hk => ⟨rows_no _ x h1 k hk, ?_⟩⟩
  have := split_mem _ h1 hk
  obtain ⟨j, _, rfl⟩ := List.mem_map.mp this
  split
  · decide
  · assumption
theorem goodP_step {p : List Para × Bool} {ws : Para} (h : goodP p.1) (hw : ∀ x ∈ ws, goodW x) : goodP (pstep p ws).1 := by
  unfold pstep
  by_cases h0 : ws = []
  · rw [if_pos h0]; exact h
  rw [if_neg h0]
  split
  · intro q hq
    rcases List.mem_append.mp hq with hq | hq
    · exact h q ((List.dropLast_sublist _).subset hq)
    · rw [List.mem_singleton.mp hq]
      refine ⟨by simp [h0], fun x hx => ?_⟩
      rcases List.mem_append.mp hx with hx | hx
      · cases hl : p.1.getLast? with
        | none => rw [hl] at hx; cases hx
        | some q => rw [hl] at hx; exact (h q (List.mem_of_getLast? hl)).2 x hx
      · exact hw x hx
  · intro q hq
    rcases List.mem_append.mp hq with hq | hq
    · exact h q hq
    · rw [List.mem_singleton.mp hq]; exact ⟨h0, hw⟩
theorem goodP_fold : ∀ (rows : List (List Nat)) (p : List Para × Bool), goodP p.1 → goodP ((rows.map wordsN).foldl pstep p).1
  | [], _, h => h
  | r :: rows, p, h => by rw [List.map_cons, List.foldl_cons]; exact goodP_fold rows _ (goodP_step h (wordsN_good r))
theorem parasN_good (t : List Nat) : goodP (parasN t) := goodP_fold _ _ fun _ h => nomatch h
theorem split_sum (c : Nat) (t : List Nat) : ((splitN c t).map List.length).sum + (splitN c t).length = t.length + 1 := by
  induction t with
  | nil => simp [splitN]
  | cons x t ih =>
    rw [splitN]
    split
    · simp only [List.map_cons, List.sum_cons, List.length_cons, List.length_nil]; omega
    · split
      · rename_i he; rw [he] at ih; simp at ih
      · rename_i p ps he
        rw [he] at ih
        simp only [List.map_cons, List.sum_cons, List.length_cons] at ih ⊢; omega
theorem wordsN_sum (t : List Nat) : ((wordsN t).map List.length).sum + (wordsN t).length ≤ t.length + 1 := by
  have h := split_sum 32 (replN t)
  have h3 : (replN t).length = t.length := by unfold replN; simp
  rw [h3] at h
  unfold wordsN
  have hs : ((splitN 32 (replN t)).filter (· ≠ [])).Sublist (splitN 32 (replN t)) := List.filter_sublist
  have h1 := sum_sub hs
  have h2 := hs.length_le
  omega
theorem para_sub {P : List Para} {p : Para} (h : p ∈ P) : p.Sublist P.flatten := List.sublist_flatten_of_mem h
theorem split_app (c : Nat) : ∀ (a b : List Nat), splitN c (a ++ c :: b) = splitN c a ++ splitN c b
  | [], b => by simp [splitN]
  | z :: a, b => by
    rw [List.cons_append, splitN, splitN]
    by_cases hz : z = c
    · rw [if_pos hz, if_pos hz, split_app c a b]; rfl
    · rw [if_neg hz, if_neg hz, split_app c a b]
      cases hq : splitN c a with
      | nil =>
        obtain ⟨p, ps, e⟩ := splitN_some (c := c) [] (by simp) a
        rw [List.nil_append, hq] at e; cases e
      | cons p ps => rfl
theorem split_join {c : Nat} : ∀ (ls : List (List Nat)), ls ≠ [] → (∀ l ∈ ls, ∀ k ∈ l, k ≠ c) → splitN c (joinN [c] ls) = ls
  | [], h, _ => absurd rfl h
  | [x], _, h => splitN_free0 x (h x (List.mem_cons_self ..))
  | x :: y :: r, _, h => by
    rw [joinN, List.append_assoc, List.singleton_append, split_app, split_join (y :: r) (List.cons_ne_nil _ _) (fun l hl => h l (List.mem_cons_of_mem _ hl)), splitN_free0 x (h x (List.mem_cons_self ..))]
    rfl
theorem join_mem {sep : List Nat} {k : Nat} : ∀ (ls : List (List Nat)), k ∈ joinN sep ls → k ∈ sep ∨ ∃ l ∈ ls, k ∈ l
  | [], h => nomatch h
  | [x], h => .inr ⟨x, List.mem_cons_self .., h⟩
  | x :: y :: r, h => by
    rw [joinN] at h
    rcases List.mem_append.mp h with h | h
    · rcases List.mem_append.mp h with h | h
      · exact .inr ⟨x, List.mem_cons_self .., h⟩
      · exact .inl h
    · rcases join_mem (y :: r) h with h | ⟨l, hl, hk⟩
      · exact .inl h
      · exact .inr ⟨l, List.mem_cons_of_mem _ hl, hk⟩
theorem line_free {ws : Para} (h : ∀ x ∈ ws, goodW x) : ∀ k ∈ joinN [32] ws, k ≠ 10 := by
  intro k hk
  rcases join_mem ws hk with h1 | ⟨l, hl, h1⟩
  · rw [List.mem_singleton.mp h1]; decide
  · exact ((h l hl).2 k h1).2
theorem words_join {ws : Para} (h : ∀ x ∈ ws, goodW x) : wordsN (joinN [32] ws) = ws := by
  rw [wordsN_row (line_free h)]
  unfold wsF
  by_cases h0 : ws = []
  · subst h0; simp [joinN, splitN]
  · rw [split_join ws h0 fun l hl k hk => ((h l hl).2 k hk).1]
    apply List.filter_eq_self.mpr
    intro x hx; have := (h x hx).1; simpa using this
-- the paragraphs of a text of blocks of lines
-- the lines by starts that fit
noncomputable def cutL (p : Para) (fs : List Nat) : List Para := (List.range fs.length).map fun k => (p.drop (fs.getD k 0)).take (nx fs p.length k - fs.getD k 0)
theorem cut_upto {p : Para} {w : Int} {fs : List Nat} (h : VS p w fs p.length) (hne : fs ≠ []) : ∀ j, j ≤ fs.length →
    ((List.range j).map fun k => (p.drop (fs.getD k 0)).take (nx fs p.length k - fs.getD k 0)).flatten = p.take (if j < fs.length then fs.getD j 0 else p.length)
  | 0, _ => by
    rcases h.2 with ⟨_, h2⟩ | ⟨_, h2, _⟩
    · exact absurd h2 hne
    · rw [if_pos (List.length_pos_iff.mpr hne), h2]; simp
  | j + 1, hj => by
    rcases h.2 with ⟨_, h2⟩ | ⟨_, _, h3⟩
    · exact absurd h2 hne
    obtain ⟨q1, q2, _⟩ := h3 j (by omega)
    rw [List.range_succ, List.map_append, List.flatten_append, cut_upto h hne j (by omega), if_pos (by omega)]
    simp only [List.map_cons, List.map_nil, List.flatten_cons, List.flatten_nil, List.append_nil]
    have hn : nx fs p.length j = if j + 1 < fs.length then fs.getD (j + 1) 0 else p.length := rfl
    rw [← hn, ← List.take_add]
    congr 1; omega
theorem cut_flat {p : Para} {w : Int} {fs : List Nat} (h : VS p w fs p.length) : (cutL p fs).flatten = p := by
  rcases h.2 with ⟨h1, h2⟩ | ⟨h1, _⟩
  · subst h2; rw [List.length_eq_zero_iff.mp h1]; rfl
  · have := cut_upto h h1 fs.length (Nat.le_refl _)
    rw [if_neg (Nat.lt_irrefl _), List.take_length] at this
    exact this
theorem lines_cut {p : Para} {w : Int} {fs : List Nat} (h : VS p w fs p.length) : linesS p (nz fs) = (cutL p fs).map (joinN [32]) := by
  unfold linesS cutL
  rw [nz_len, List.map_map]
  apply List.map_congr_left
  intro k hk
  have hk := List.mem_range.mp hk
  rcases h.2 with ⟨_, h2⟩ | ⟨_, _, h3⟩
  · subst h2; cases hk
  · obtain ⟨q1, q2, _⟩ := h3 k hk
    rw [nz_getD, ends_same, nz_ends hk, sliceL_mid]
    rfl
theorem join_le {sep : List Nat} (ts : List (List Nat)) : (joinN sep ts).length ≤ (ts.map List.length).sum + ts.length * sep.length := by
  rw [joinN_len]
  have := Nat.mul_le_mul_right sep.length (show ts.length - 1 ≤ ts.length by omega)
  omega
theorem sums_flat : ∀ (C : List Para), (C.flatten.map List.length).sum = (C.map fun p => (p.map List.length).sum).sum
  | [] => rfl
  | p :: C => by rw [List.flatten_cons, List.map_append, List.sum_append, sums_flat C]; rfl
theorem lens_flat : ∀ (C : List Para), C.flatten.length = (C.map List.length).sum
  | [] => rfl
  | p :: C => by rw [List.flatten_cons, List.length_append, lens_flat C]; rfl
theorem sum_le_sum {α : Type} {f g : α → Nat} : ∀ (l : List α), (∀ a ∈ l, f a ≤ g a) → (l.map f).sum ≤ (l.map g).sum
  | [], _ => Nat.le_refl _
  | a :: l, h => by
    have := h a (List.mem_cons_self ..)
    have := sum_le_sum l fun a ha => h a (List.mem_cons_of_mem _ ha)
    simp only [List.map_cons, List.sum_cons]; omega
theorem sum_add {α : Type} (f g : α → Nat) : ∀ (l : List α), (l.map fun a => f a + g a).sum = (l.map f).sum + (l.map g).sum
  | [] => rfl
  | a :: l => by simp only [List.map_cons, List.sum_cons, sum_add f g l]; omega
theorem lines_total {p : Para} {w : Int} {fs : List Nat} (h : VS p w fs p.length) : ((linesS p (nz fs)).map List.length).sum ≤ (p.map List.length).sum + p.length := by
  rw [lines_cut h, List.map_map]
  have h1 := sum_le_sum (f := List.length ∘ joinN [32]) (g := fun l => (l.map List.length).sum + l.length) (cutL p fs) fun l _ => by
    have := join_le (sep := [32]) l
    simp only [Function.comp_apply]; simpa using this
  rw [sum_add] at h1
  have h2 := sums_flat (cutL p fs)
  have h3 := lens_flat (cutL p fs)
  rw [cut_flat h] at h2 h3
  rw [← h2, ← h3] at h1
  exact h1
theorem paras_count {P : List Para} (hP : goodP P) : P.length ≤ P.flatten.length := by
  rw [lens_flat]
  have := sum_le_sum (f := fun _ => 1) (g := List.length) P fun p hp => by have := List.length_pos_iff.mpr (hP p hp).1; omega
  rw [List.map_const', List.sum_replicate_nat, Nat.mul_one] at this
  exact this
theorem longest_flat : ∀ (P : List Para) (m : Nat), P.foldl (fun m p => p.foldl (fun m w => max m w.length) m) m = P.flatten.foldl (fun m w => max m w.length) m
  | [], _ => rfl
  | p :: P, m => by rw [List.foldl_cons, List.flatten_cons, List.foldl_append, longest_flat P]
end Mine
namespace Mine
open PySem

-- no two lines of the best starts would fit into one
theorem no_merge {ws : List (List Nat)} {w : Int} {T : List Int} (hR : Right ws w T) {a : Nat} (ha : a < ws.length) (hb : nxtB ws w T a < ws.length) : w < (sz ws a (nxtB ws w T (nxtB ws w T a)) : Int) := by
  obtain ⟨b1, b2, _, b4, b5⟩ := nxtB_in hR ha
  obtain ⟨c1, c2, _, c4, c5⟩ := nxtB_in hR hb
  generalize nxtB ws w T (nxtB ws w T a) = c at c1 c2 c4 c5
  generalize nxtB ws w T a = b at hb b1 b2 b4 b5 c1 c4 c5
  refine Int.not_le.mp fun hle => ?_
  rw [costT_pr hR.2.1] at b5 c5
  have ht := T_le hR (show a < c by omega) c2 hle
  have hs1 := sz_pre ws (show a ≤ b by omega)
  have hs2 := sz_pre ws (show a ≤ c by omega)
  have hm := pre_mono ws (show b ≤ c by omega)
  have hlt : sz ws a b < sz ws a c := by omega
  have p1 : prN ws w a b = (w - (sz ws a b : Nat)) * (w - (sz ws a b : Nat)) := if_neg (by omega)
  have p2 : 0 ≤ prN ws w b c := by
    unfold prN; split
    · exact Int.le_refl _
    · exact Int.mul_nonneg (by omega) (by omega)
  have p3 : prN ws w a c ≤ (w - (sz ws a c : Nat)) * (w - (sz ws a c : Nat)) := by
    unfold prN; split
    · exact Int.mul_nonneg (by omega) (by omega)
    · exact Int.le_refl _
  have p4 : (w - (sz ws a c : Nat)) * (w - (sz ws a c : Nat)) < (w - (sz ws a b : Nat)) * (w - (sz ws a b : Nat)) := Int.mul_self_lt_mul_self (by omega) (by omega)
  omega
theorem bl_dense {ws : List (List Nat)} {w : Int} {T : List Int} (hR : Right ws w T) : ∀ f a, ws.length - a ≤ f → ∀ k, k + 1 < (bl ws w T f a).length → w < (sz ws ((bl ws w T f a).getD k 0) (nx (bl ws w T f a) ws.length (k + 1)) : Int)
  | 0, a, _, k, hk => by simp [bl] at hk
  | f + 1, a, hf, k, hk => by
    rw [bl] at hk ⊢
    by_cases ha : a < ws.length
    · rw [if_pos ha] at hk ⊢
      have hin := nxtB_in hR ha
      have ih := bl_dense hR f (nxtB ws w T a) (by omega)
      match f, ih, hk with
      | 0, _, hk => simp [bl] at hk
      | f + 1, ih, hk =>
        rw [bl] at ih hk ⊢
        by_cases hb : nxtB ws w T a < ws.length
        · rw [if_pos hb] at ih hk ⊢
          match k with
          | 0 =>
            have hm := no_merge hR ha hb
            have hc := nxtB_in hR hb
            have e : nx (a :: nxtB ws w T a :: bl ws w T f (nxtB ws w T (nxtB ws w T a))) ws.length (0 + 1) = nxtB ws w T (nxtB ws w T a) := by
              unfold nx
              match f with
              | 0 =>
                rw [bl]
                rw [if_neg (by simp)]; omega
              | f + 1 =>
                rw [bl]
                by_cases hcl : nxtB ws w T (nxtB ws w T a) < ws.length
                · rw [if_pos hcl, if_pos (by simp)]; rfl
                · rw [if_neg hcl, if_neg (by simp)]; omega
            rw [e]; exact hm
          | k + 1 =>
            rw [nx_cons, List.getD_cons_succ]
            exact ih k (by simpa using hk)
        · rw [if_neg hb] at hk; simp at hk
    · rw [if_neg ha] at hk; simp at hk
theorem best_dense {ws : List (List Nat)} {w : Int} (hw : ∀ x ∈ ws, (x.length : Int) ≤ w) : ∀ k, k + 1 < (best ws w).length → w < (sz ws ((best ws w).getD k 0) (nx (best ws w) ws.length (k + 1)) : Int) :=
  bl_dense (tab_right hw) _ _ (by omega)
theorem dense_sum {ws : List (List Nat)} {w : Nat} (hw : ∀ x ∈ ws, (x.length : Int) ≤ (w : Int)) : ∀ j, j + 1 ≤ (best ws w).length → j * w ≤ (pre ws ((best ws w).getD j 0) + (best ws w).getD j 0) + (pre ws (nx (best ws w) ws.length j) + nx (best ws w) ws.length j)
  | 0, _ => by omega
  | j + 1, hj => by
    have ih := dense_sum hw j (by omega)
    have hd := best_dense hw j hj
    have hv := best_VS hw
    generalize best ws w = fs at ih hd hv hj
    rcases hv.2 with ⟨_, h2⟩ | ⟨_, _, h3⟩
    · subst h2; cases hj
    obtain ⟨q1, q2, _⟩ := h3 j (by omega)
    obtain ⟨r1, r2, _⟩ := h3 (j + 1) (by omega)
    have hn : nx fs ws.length j = fs.getD (j + 1) 0 := by unfold nx; rw [if_pos (by omega)]
    rw [hn] at ih q1 q2
    have hs := sz_pre ws (show fs.getD j 0 ≤ nx fs ws.length (j + 1) by omega)
    rw [Nat.succ_mul]
    omega
theorem dense_le {p : Para} {w : Int} (hw : ∀ x ∈ p, (x.length : Int) ≤ w) (h2 : 1 < (best p w).length) : w ≤ (((p.map List.length).sum + p.length : Nat) : Int) := by
  have hd := best_dense hw 0 h2
  have hv := best_VS hw
  generalize best p w = fs at hd hv h2
  rcases hv.2 with ⟨_, h3⟩ | ⟨_, _, h3⟩
  · subst h3; cases h2
  obtain ⟨q1, q2, _⟩ := h3 0 (by omega)
  obtain ⟨r1, r2, _⟩ := h3 1 h2
  have hn : nx fs p.length 0 = fs.getD 1 0 := by unfold nx; rw [if_pos h2]
  have hs := sz_pre p (show fs.getD 0 0 ≤ nx fs p.length (0 + 1) by rw [hn] at q1; simp only [Nat.zero_add]; omega)
  have m2 := pre_mono p r2
  rw [pre_all] at m2
  simp only [Nat.zero_add] at hs hd
  omega
-- the lines of a squared paragraph
theorem sz_cut {p : Para} {b e : Nat} (hbe : b < e) (he : e ≤ p.length) : sz ((p.drop b).take (e - b)) 0 ((p.drop b).take (e - b)).length = sz p b e := by
  have hl : ((p.drop b).take (e - b)).length = e - b := by rw [List.length_take, List.length_drop]; omega
  unfold sz
  rw [List.drop_zero, Nat.sub_zero, List.take_length, hl]
theorem cut_get {p : Para} {fs : List Nat} {k : Nat} (hk : k < fs.length) : (cutL p fs)[k]? = some ((p.drop (fs.getD k 0)).take (nx fs p.length k - fs.getD k 0)) := by
  unfold cutL
  rw [List.getElem?_map, List.getElem?_range hk]; rfl
theorem cut_sz {p : Para} {w : Int} {fs : List Nat} (h : VS p w fs p.length) : ∀ l ∈ cutL p fs, (sz l 0 l.length : Int) ≤ w := by
  intro l hl
  obtain ⟨k, hk, rfl⟩ := List.mem_map.mp hl
  have hk := List.mem_range.mp hk
  rcases h.2 with ⟨_, h2⟩ | ⟨_, _, h3⟩
  · subst h2; cases hk
  · obtain ⟨q1, q2, q3⟩ := h3 k hk
    rw [sz_cut q1 q2]; exact q3
theorem spreadT_len {l : Para} {w : Nat} (h : sz l 0 l.length ≤ w) : (spreadT l w).length ≤ w := by
  unfold spreadT
  by_cases h0 : l = []
  · rw [if_pos h0]; simp
  · rw [if_neg h0]
    have hp := List.length_pos_iff.mpr h0
    have h1 := spl_le (ws := l) (B := w - pre l l.length) (j := l.length - 1) (by omega)
    have h2 := sz_all l
    omega
noncomputable def sqL (w : Int) (p : Para) (fs : List Nat) : List (List Nat) := ((cutL p fs).dropLast.map fun l => spreadT l w.toNat) ++ ((cutL p fs).drop (fs.length - 1)).map (joinN [32])
theorem cut_len (p : Para) (fs : List Nat) : (cutL p fs).length = fs.length := by unfold cutL; simp
theorem cut_last {p : Para} {w : Int} {fs : List Nat} (h : VS p w fs p.length) (hne : fs ≠ []) : (cutL p fs).drop (fs.length - 1) = [p.drop (fs.getD (fs.length - 1) 0)] := by
  have hp := List.length_pos_iff.mpr hne
  have hk := cut_get (p := p) (fs := fs) (k := fs.length - 1) (by omega)
  have hn : nx fs p.length (fs.length - 1) = p.length := by unfold nx; rw [if_neg (by omega)]
  rw [hn] at hk
  have hl : (p.drop (fs.getD (fs.length - 1) 0)).take (p.length - fs.getD (fs.length - 1) 0) = p.drop (fs.getD (fs.length - 1) 0) := List.take_of_length_le (by rw [List.length_drop]; omega)
  rw [hl] at hk
  obtain ⟨hlt, e⟩ := List.getElem?_eq_some_iff.mp hk
  rw [List.drop_eq_getElem_cons hlt, e]
  congr 1
  apply List.drop_eq_nil_of_le
  rw [cut_len]; omega
theorem range_dropLast {α : Type} (f : Nat → α) (n : Nat) : ((List.range n).map f).dropLast = (List.range (n - 1)).map f := by
  cases n with
  | zero => rfl
  | succ n => rw [List.range_succ, List.map_append, List.map_cons, List.map_nil, List.dropLast_concat, Nat.add_sub_cancel]
noncomputable def sqB (w : Int) (p : Para) : List Nat := joinN [10] (sqL w p (best p w))
noncomputable def sqT (w : Int) (P : List Para) : List Nat := joinN [10, 10] (P.map (sqB w))
theorem sqL_len {p : Para} {w : Int} {fs : List Nat} (h : VS p w fs p.length) : (sqL w p fs).length ≤ p.length + 1 := by
  have := h.1
  unfold sqL
  rw [List.length_append, List.length_map, List.length_map, List.length_dropLast, List.length_drop, cut_len]; omega
theorem sum_le_mul {α : Type} {f : α → Nat} {k : Nat} : ∀ (l : List α), (∀ a ∈ l, f a ≤ k) → (l.map f).sum ≤ l.length * k
  | [], _ => by simp
  | a :: l, h => by
    have h1 := h a (List.mem_cons_self ..)
    have h2 := sum_le_mul l fun a ha => h a (List.mem_cons_of_mem _ ha)
    rw [List.map_cons, List.sum_cons, List.length_cons, Nat.succ_mul]; omega
theorem sqL_sum {p : Para} {w : Int} (h0 : 0 ≤ w) (hw : ∀ x ∈ p, (x.length : Int) ≤ w) : ((sqL w p (best p w)).map List.length).sum ≤ 3 * ((p.map List.length).sum + p.length) := by
  have hv := best_VS hw
  have hww : w = (w.toNat : Int) := by omega
  have hd : ((best p w).length - 1) * w.toNat ≤ 2 * ((p.map List.length).sum + p.length) := by
    by_cases hne : best p w = []
    · rw [hne]; simp
    · have hp := List.length_pos_iff.mpr hne
      have hds := dense_sum (ws := p) (w := w.toNat) (fun x hx => by rw [← hww]; exact hw x hx)
      rw [← hww] at hds
      have := hds ((best p w).length - 1) (by omega)
      rcases hv.2 with ⟨_, h2⟩ | ⟨_, _, h3⟩
      · exact absurd h2 hne
      obtain ⟨q1, q2, _⟩ := h3 ((best p w).length - 1) (by omega)
      have m1 := pre_mono p (show (best p w).getD ((best p w).length - 1) 0 ≤ p.length by omega)
      have m2 := pre_mono p q2
      rw [pre_all] at m1 m2
      omega
  generalize best p w = fs at hv hd
  have hcs := cut_sz hv
  unfold sqL
  rw [List.map_append, List.sum_append, List.map_map, List.map_map]
  have h1 := sum_le_mul (f := List.length ∘ fun l => spreadT l w.toNat) (k := w.toNat) (cutL p fs).dropLast fun l hl => by
    have := hcs l ((List.dropLast_sublist _).subset hl)
    exact spreadT_len (by omega)
  rw [List.length_dropLast, cut_len] at h1
  have h2 := lines_total hv
  rw [lines_cut hv, List.map_map] at h2
  have h3 : (((cutL p fs).drop (fs.length - 1)).map (List.length ∘ joinN [32])).sum ≤ ((cutL p fs).map (List.length ∘ joinN [32])).sum := by
    have := congrArg (fun l => (l.map (List.length ∘ joinN [32])).sum) (List.take_append_drop (fs.length - 1) (cutL p fs))
    simp only [List.map_append, List.sum_append] at this
    omega
  omega
theorem sqB_len {p : Para} {w : Int} (h0 : 0 ≤ w) (h : ∀ x ∈ p, (x.length : Int) ≤ w) : (sqB w p).length ≤ 4 * ((p.map List.length).sum + p.length) + 1 := by
  have h1 := join_le (sep := [10]) (sqL w p (best p w))
  have h2 := sqL_sum h0 h
  have h3 := sqL_len (best_VS h)
  unfold sqB
  simp only [List.length_cons, List.length_nil] at h1; omega
theorem sqBs_sum {w : Int} {P : List Para} (h0 : 0 ≤ w) (hw : ∀ x ∈ P.flatten, (x.length : Int) ≤ w) : ((P.map (sqB w)).map List.length).sum ≤ 4 * ((P.flatten.map List.length).sum + P.flatten.length) + P.length := by
  rw [List.map_map]
  have h1 : ∀ (Q : List Para), (∀ p ∈ Q, p ∈ P) → (Q.map (List.length ∘ sqB w)).sum ≤ 4 * ((Q.flatten.map List.length).sum + Q.flatten.length) + Q.length := by
    intro Q
    induction Q with
    | nil => intro _; simp
    | cons p Q ih =>
      intro hQ
      have i1 := ih fun q hq => hQ q (List.mem_cons_of_mem _ hq)
      have i2 := sqB_len (w := w) (p := p) h0 fun x hx => hw x (List.mem_flatten.mpr ⟨p, hQ p (List.mem_cons_self ..), hx⟩)
      simp only [List.map_cons, List.sum_cons, List.flatten_cons, List.map_append, List.sum_append, List.length_append, List.length_cons, Function.comp_apply]
      omega
  exact h1 P fun _ h => h
theorem sliceL_lastL {α : Type} (l : List α) : sliceL l (some (-1)) none = l.drop (l.length - 1) := by
  have h := clipAt_cast l.length (-1)
  rw [if_pos (by decide)] at h
  have h2 : clipAt l.length (-1) = l.length - 1 := by omega
  simp only [sliceL, Option.elim_some, Option.elim_none, h2]
  rw [List.take_of_length_le (by rw [List.length_drop]; omega)]
end Mine
namespace Mine
namespace L13
open PySem PySem.Calls PyProof.Rows PySem.SeqAt PySem.W
set_option maxRecDepth 20000
set_option maxHeartbeats 4000000
noncomputable def s_need_width_1 : G → Option O := fun Γ => bindE (bindR (getV 0 Γ) fun a1 => bindR (some (.ok (.int 1, 2))) fun a2 => bindR (ltF [a1.1, a2.1]) fun a3 => (truthD a3.1).map .ok) Γ fun a4 => if a4 then (bindO (some (.raise "NoWidth")) fun Γ => some (.next Γ)) else (some (.next Γ))
noncomputable def f_need_width : G → Option O := fun Γ => bindO (s_need_width_1 Γ) fun Γ => some (.next Γ)
noncomputable def F_need_width : List D → Option (R (D × Nat)) := fnF 1 0 f_need_width
theorem den_need_width {c : Cx} (ok : c.Ok) (B : Bi c) (X : Xs c)  : DenSs c false 0 (recAt PySem.Challenge.pw_uf040006_13 13).scope ["width"] (recAt PySem.Challenge.pw_uf040006_13 13).body f_need_width :=
  denSs_cons (denS_if (denB_cmp op_lt (den_var 0) (den_int)) (denSs_cons (denS_raise ok X) (denSs_nil)) (denSs_nil)) (denSs_nil)
theorem bind_need_width : ∀ pm code doc (vals : List Value), vals.length = (["width"] : List Str).length → bindArgs (Calls.docDef (recAt PySem.Challenge.pw_uf040006_13 13).name (recAt PySem.Challenge.pw_uf040006_13 13).params (recAt PySem.Challenge.pw_uf040006_13 13).body (recAt PySem.Challenge.pw_uf040006_13 13).scope pm code doc) ⟨vals, []⟩ = pure ((["width"] : List Str).zip vals) := by
  intro pm code doc vals h
  obtain ⟨v0, rfl⟩ := len1 h
  rfl
theorem fn_need_width {c : Cx} (ok : c.Ok) (B : Bi c) (X : Xs c)  (hf : FnRec c (recAt PySem.Challenge.pw_uf040006_13 13)) : Fn c false 1 "need_width" F_need_width :=
  fn_of (ps := ["width"]) 0 ok hf (den_need_width ok B X ) bind_need_width
noncomputable def s_size_of_1 : G → Option O := fun Γ => bindE (bindR (getV 1 Γ) fun a5 => bindR (getV 2 Γ) fun a6 => bindR (eqF [a5.1, a6.1]) fun a7 => (truthD a7.1).map .ok) Γ fun a9 => if a9 then (bindO (bindE (some (.ok (.int 0, 2))) Γ fun a8 => some (.ret a8.1 a8.2)) fun Γ => some (.next Γ)) else (some (.next Γ))
noncomputable def e_size_of_1 : G → Option (R (D × Nat)) := fun Γ => bindR (bindR (bindR (getV 1 Γ) fun a14 => bindR (getV 0 Γ) fun a15 => itemF [a14.1, a15.1]) fun a16 => bindR (some (.ok [])) fun a17 => some (.ok (a16.1 :: a17))) lenF
noncomputable def s_size_of_2 : G → Option O := fun Γ => bindE (bindR (bindR (bindR (bindR (bindR (bindR (bindR (bindR (getV 1 Γ) fun a12 => bindR (bindR (getV 2 Γ) fun a10 => bindR (some (.ok [])) fun a11 => some (.ok (a10.1 :: a11))) fun a13 => some (.ok (a12.1 :: a13))) rngF) (compF e_size_of_1 (fun _ => some (.ok true)) [0] Γ)) fun a18 => bindR (some (.ok [])) fun a19 => some (.ok (a18.1 :: a19))) sumF) fun a20 => bindR (getV 2 Γ) fun a21 => addF [a20.1, a21.1]) fun a22 => bindR (getV 1 Γ) fun a23 => subF [a22.1, a23.1]) fun a24 => bindR (some (.ok (.int 1, 2))) fun a25 => subF [a24.1, a25.1]) Γ fun a26 => some (.ret a26.1 a26.2)
noncomputable def f_size_of : G → Option O := fun Γ => bindO (s_size_of_1 Γ) fun Γ => bindO (s_size_of_2 Γ) fun Γ => some (.next Γ)
noncomputable def F_size_of : List D → Option (R (D × Nat)) := fnF 3 0 f_size_of
theorem den_size_of {c : Cx} (ok : c.Ok) (B : Bi c)  : DenSs c false 0 (recAt PySem.Challenge.pw_uf040006_13 14).scope ["words", "begin", "end"] (recAt PySem.Challenge.pw_uf040006_13 14).body f_size_of :=
  denSs_cons (denS_if (denB_cmp op_eq (den_var 1) (den_var 2)) (denSs_cons (denS_return (den_int)) (denSs_nil)) (denSs_nil)) (denSs_cons (denS_return (den_bin op_sub (den_bin op_sub (den_bin op_add (den_bi ok B.sum op_sum (denA_cons (den_comp [0] (den_range ok B.range_ (denA_cons (den_var 1) (denA_cons (den_var 2) (denA_nil)))) denT_nil (den_bi ok B.len op_len (denA_cons (den_idx (den_var 1) (den_var 0)) (denA_nil)))) (denA_nil))) (den_var 2)) (den_var 1)) (den_int))) (denSs_nil))
theorem bind_size_of : ∀ pm code doc (vals : List Value), vals.length = (["words", "begin", "end"] : List Str).length → bindArgs (Calls.docDef (recAt PySem.Challenge.pw_uf040006_13 14).name (recAt PySem.Challenge.pw_uf040006_13 14).params (recAt PySem.Challenge.pw_uf040006_13 14).body (recAt PySem.Challenge.pw_uf040006_13 14).scope pm code doc) ⟨vals, []⟩ = pure ((["words", "begin", "end"] : List Str).zip vals) := by
  intro pm code doc vals h
  obtain ⟨v0, v1, v2, rfl⟩ := len3 h
  rfl
theorem fn_size_of {c : Cx} (ok : c.Ok) (B : Bi c)  (hf : FnRec c (recAt PySem.Challenge.pw_uf040006_13 14)) : Fn c false 1 "size_of" F_size_of :=
  fn_of (ps := ["words", "begin", "end"]) 0 ok hf (den_size_of ok B ) bind_size_of
noncomputable def s_long_word_1 : G → Option O := fun Γ => bindE (bindR (bindR (getV 1 Γ) fun a27 => bindR (some (.ok [])) fun a28 => some (.ok (a27.1 :: a28))) F_need_width) Γ fun _ => some (.next Γ)
noncomputable def b_long_word_1 : G → Option O := fun Γ => bindO (bindE (bindR (bindR (bindR (bindR (getV 0 Γ) fun a33 => bindR (getV 2 Γ) fun a34 => itemF [a33.1, a34.1]) fun a35 => bindR (some (.ok [])) fun a36 => some (.ok (a35.1 :: a36))) lenF) fun a37 => bindR (getV 1 Γ) fun a38 => bindR (gtF [a37.1, a38.1]) fun a39 => (truthD a39.1).map .ok) Γ fun a40 => if a40 then (bindO (retV 2 Γ) fun Γ => some (.next Γ)) else (some (.next Γ))) fun Γ => some (.next Γ)
noncomputable def s_long_word_2 : G → Option O := fun Γ => forF [] 2 (fun Γ => bindR (bindR (bindR (bindR (getV 0 Γ) fun a29 => bindR (some (.ok [])) fun a30 => some (.ok (a29.1 :: a30))) lenF) fun a31 => bindR (some (.ok [])) fun a32 => some (.ok (a31.1 :: a32))) rngF) b_long_word_1 Γ
noncomputable def s_long_word_3 : G → Option O := fun Γ => bindE (some (.ok (.none, 2))) Γ fun a41 => some (.ret a41.1 a41.2)
noncomputable def f_long_word : G → Option O := fun Γ => bindO (s_long_word_1 Γ) fun Γ => bindO (s_long_word_2 Γ) fun Γ => bindO (s_long_word_3 Γ) fun Γ => some (.next Γ)
noncomputable def F_long_word : List D → Option (R (D × Nat)) := fnF 2 1 f_long_word
theorem den_long_word {c : Cx} (ok : c.Ok) (B : Bi c) (h_need_width : Fn c false 1 "need_width" F_need_width) : DenSs c false 1 (recAt PySem.Challenge.pw_uf040006_13 15).scope ["words", "width", "at"] (recAt PySem.Challenge.pw_uf040006_13 15).body f_long_word :=
  denSs_cons (denS_expr (den_call ok h_need_width (denA_cons (den_var 1) (denA_nil)))) (denSs_cons (denS_for 2 (den_range ok B.range_ (denA_cons (den_bi ok B.len op_len (denA_cons (den_var 0) (denA_nil))) (denA_nil))) (denSs_cons (denS_if (denB_cmp op_gt (den_bi ok B.len op_len (denA_cons (den_idx (den_var 0) (den_var 2)) (denA_nil))) (den_var 1)) (denSs_cons (denS_retvar 2) (denSs_nil)) (denSs_nil)) (denSs_nil))) (denSs_cons (denS_return (den_none)) (denSs_nil)))
theorem bind_long_word : ∀ pm code doc (vals : List Value), vals.length = (["words", "width"] : List Str).length → bindArgs (Calls.docDef (recAt PySem.Challenge.pw_uf040006_13 15).name (recAt PySem.Challenge.pw_uf040006_13 15).params (recAt PySem.Challenge.pw_uf040006_13 15).body (recAt PySem.Challenge.pw_uf040006_13 15).scope pm code doc) ⟨vals, []⟩ = pure ((["words", "width"] : List Str).zip vals) := by
  intro pm code doc vals h
  obtain ⟨v0, v1, rfl⟩ := len2 h
  rfl
theorem fn_long_word {c : Cx} (ok : c.Ok) (B : Bi c) (h_need_width : Fn c false 1 "need_width" F_need_width) (hf : FnRec c (recAt PySem.Challenge.pw_uf040006_13 15)) : Fn c false 2 "long_word" F_long_word :=
  fn_of (ps := ["words", "width"]) 1 ok hf (den_long_word ok B h_need_width) bind_long_word
noncomputable def s_are_starts_1 : G → Option O := fun Γ => bindE (bindR (bindR (bindR (getV 1 Γ) (isiF "list")) fun a42 => (truthD a42.1).map .ok) fun a43 => some (.ok (!a43))) Γ fun a45 => if a45 then (bindO (bindE (some (.ok (.bool false, 2))) Γ fun a44 => some (.ret a44.1 a44.2)) fun Γ => some (.next Γ)) else (some (.next Γ))
noncomputable def e_are_starts_1 : G → Option (R (D × Nat)) := fun Γ => bindR (bindR (getV 0 Γ) (isiF "int")) fun a47 => andF a47 (bindR (bindR (getV 0 Γ) (isiF "bool")) fun a46 => notF [a46.1])
noncomputable def s_are_starts_2 : G → Option O := fun Γ => bindE (bindR (bindR (bindR (bindR (bindR (bindR (getV 1 Γ) itF) (compF e_are_starts_1 (fun _ => some (.ok true)) [] Γ)) fun a48 => bindR (some (.ok [])) fun a49 => some (.ok (a48.1 :: a49))) allF) fun a50 => (truthD a50.1).map .ok) fun a51 => some (.ok (!a51))) Γ fun a53 => if a53 then (bindO (bindE (some (.ok (.bool false, 2))) Γ fun a52 => some (.ret a52.1 a52.2)) fun Γ => some (.next Γ)) else (some (.next Γ))
noncomputable def s_are_starts_3 : G → Option O := fun Γ => bindE (bindR (bindR (getV 0 Γ) fun a54 => bindR (bindR (some (.ok [])) listF) fun a55 => bindR (eqF [a54.1, a55.1]) fun a56 => (truthD a56.1).map .ok) fun a61 => if a61 then some (.ok true) else (bindR (bindR (getV 1 Γ) fun a57 => bindR (bindR (some (.ok [])) listF) fun a58 => bindR (eqF [a57.1, a58.1]) fun a59 => (truthD a59.1).map .ok) fun a60 => if a60 then some (.ok true) else (some (.ok false)))) Γ fun a68 => if a68 then (bindO (bindE (bindR (bindR (getV 0 Γ) fun a62 => bindR (bindR (some (.ok [])) listF) fun a63 => eqF [a62.1, a63.1]) fun a66 => andF a66 (bindR (getV 1 Γ) fun a64 => bindR (bindR (some (.ok [])) listF) fun a65 => eqF [a64.1, a65.1])) Γ fun a67 => some (.ret a67.1 a67.2)) fun Γ => some (.next Γ)) else (some (.next Γ))
noncomputable def b_are_starts_1 : G → Option O := fun Γ => bindO (bindE (bindR (bindR (getV 1 Γ) fun a75 => bindR (getV 2 Γ) fun a76 => itemF [a75.1, a76.1]) fun a81 => bindR (bindR (getV 1 Γ) fun a79 => bindR (bindR (getV 2 Γ) fun a77 => bindR (some (.ok (.int 1, 2))) fun a78 => subF [a77.1, a78.1]) fun a80 => itemF [a79.1, a80.1]) fun a82 => bindR (leF [a81.1, a82.1]) fun a83 => (truthD a83.1).map .ok) Γ fun a85 => if a85 then (bindO (bindE (some (.ok (.bool false, 2))) Γ fun a84 => some (.ret a84.1 a84.2)) fun Γ => some (.next Γ)) else (some (.next Γ))) fun Γ => some (.next Γ)
noncomputable def s_are_starts_4 : G → Option O := fun Γ => forF [] 2 (fun Γ => bindR (bindR (some (.ok (.int 1, 2))) fun a73 => bindR (bindR (bindR (bindR (getV 1 Γ) fun a69 => bindR (some (.ok [])) fun a70 => some (.ok (a69.1 :: a70))) lenF) fun a71 => bindR (some (.ok [])) fun a72 => some (.ok (a71.1 :: a72))) fun a74 => some (.ok (a73.1 :: a74))) rngF) b_are_starts_1 Γ
noncomputable def s_are_starts_5 : G → Option O := fun Γ => bindE (bindR (bindR (bindR (getV 1 Γ) fun a86 => bindR (some (.ok (.int 0, 2))) fun a87 => itemF [a86.1, a87.1]) fun a88 => bindR (some (.ok (.int 0, 2))) fun a89 => eqF [a88.1, a89.1]) fun a97 => andF a97 (bindR (bindR (getV 1 Γ) fun a91 => bindR (bindR (some (.ok (.int 1, 2))) fun a90 => negF [a90.1]) fun a92 => itemF [a91.1, a92.1]) fun a95 => bindR (bindR (bindR (getV 0 Γ) fun a93 => bindR (some (.ok [])) fun a94 => some (.ok (a93.1 :: a94))) lenF) fun a96 => ltF [a95.1, a96.1])) Γ fun a98 => some (.ret a98.1 a98.2)
noncomputable def f_are_starts : G → Option O := fun Γ => bindO (s_are_starts_1 Γ) fun Γ => bindO (s_are_starts_2 Γ) fun Γ => bindO (s_are_starts_3 Γ) fun Γ => bindO (s_are_starts_4 Γ) fun Γ => bindO (s_are_starts_5 Γ) fun Γ => some (.next Γ)
noncomputable def F_are_starts : List D → Option (R (D × Nat)) := fnF 2 1 f_are_starts
theorem den_are_starts {c : Cx} (ok : c.Ok) (B : Bi c)  : DenSs c false 0 (recAt PySem.Challenge.pw_uf040006_13 17).scope ["words", "starts", "k"] (recAt PySem.Challenge.pw_uf040006_13 17).body f_are_starts :=
  denSs_cons (denS_if (denB_not (denB_val (den_isi ok B.isinstance B.list_ (den_var 1)))) (denSs_cons (denS_return (den_bool)) (denSs_nil)) (denSs_nil)) (denSs_cons (denS_if (denB_not (denB_val (den_bi ok B.all op_all (denA_cons (den_comp [] (den_it (den_var 1)) denT_nil (den_and (den_isi ok B.isinstance B.int_ (den_var 0)) (den_one (den_un op_not (den_isi ok B.isinstance B.bool_ (den_var 0)))))) (denA_nil))))) (denSs_cons (denS_return (den_bool)) (denSs_nil)) (denSs_nil)) (denSs_cons (denS_if (denB_bool (denL_or (denB_cmp op_eq (den_var 0) (den_list (denA_nil))) (denL_or (denB_cmp op_eq (den_var 1) (den_list (denA_nil))) (denL_or_nil)))) (denSs_cons (denS_return (den_and (den_cmp op_eq (den_var 0) (den_list (denA_nil))) (den_one (den_cmp op_eq (den_var 1) (den_list (denA_nil)))))) (denSs_nil)) (denSs_nil)) (denSs_cons (denS_for 2 (den_range ok B.range_ (denA_cons (den_int) (denA_cons (den_bi ok B.len op_len (denA_cons (den_var 1) (denA_nil))) (denA_nil)))) (denSs_cons (denS_if (denB_cmp op_le (den_idx (den_var 1) (den_var 2)) (den_idx (den_var 1) (den_bin op_sub (den_var 2) (den_int)))) (denSs_cons (denS_return (den_bool)) (denSs_nil)) (denSs_nil)) (denSs_nil))) (denSs_cons (denS_return (den_and (den_cmp op_eq (den_idx (den_var 1) (den_int)) (den_int)) (den_one (den_cmp op_lt (den_idx (den_var 1) (den_un op_neg (den_int))) (den_bi ok B.len op_len (denA_cons (den_var 0) (denA_nil))))))) (denSs_nil)))))
theorem bind_are_starts : ∀ pm code doc (vals : List Value), vals.length = (["words", "starts"] : List Str).length → bindArgs (Calls.docDef (recAt PySem.Challenge.pw_uf040006_13 17).name (recAt PySem.Challenge.pw_uf040006_13 17).params (recAt PySem.Challenge.pw_uf040006_13 17).body (recAt PySem.Challenge.pw_uf040006_13 17).scope pm code doc) ⟨vals, []⟩ = pure ((["words", "starts"] : List Str).zip vals) := by
  intro pm code doc vals h
  obtain ⟨v0, v1, rfl⟩ := len2 h
  rfl
theorem fn_are_starts {c : Cx} (ok : c.Ok) (B : Bi c)  (hf : FnRec c (recAt PySem.Challenge.pw_uf040006_13 17)) : Fn c false 1 "are_starts" F_are_starts :=
  fn_of (ps := ["words", "starts"]) 1 ok hf (den_are_starts ok B ) bind_are_starts
noncomputable def s_need_starts_1 : G → Option O := fun Γ => bindE (bindR (bindR (bindR (bindR (getV 0 Γ) fun a101 => bindR (bindR (getV 1 Γ) fun a99 => bindR (some (.ok [])) fun a100 => some (.ok (a99.1 :: a100))) fun a102 => some (.ok (a101.1 :: a102))) F_are_starts) fun a103 => (truthD a103.1).map .ok) fun a104 => some (.ok (!a104))) Γ fun a105 => if a105 then (bindO (some (.raise "NoStarts")) fun Γ => some (.next Γ)) else (some (.next Γ))
noncomputable def f_need_starts : G → Option O := fun Γ => bindO (s_need_starts_1 Γ) fun Γ => some (.next Γ)
noncomputable def F_need_starts : List D → Option (R (D × Nat)) := fnF 2 0 f_need_starts
theorem den_need_starts {c : Cx} (ok : c.Ok) (B : Bi c) (X : Xs c) (h_are_starts : Fn c false 1 "are_starts" F_are_starts) : DenSs c false 1 (recAt PySem.Challenge.pw_uf040006_13 18).scope ["words", "starts"] (recAt PySem.Challenge.pw_uf040006_13 18).body f_need_starts :=
  denSs_cons (denS_if (denB_not (denB_val (den_call ok h_are_starts (denA_cons (den_var 0) (denA_cons (den_var 1) (denA_nil)))))) (denSs_cons (denS_raise ok X) (denSs_nil)) (denSs_nil)) (denSs_nil)
theorem bind_need_starts : ∀ pm code doc (vals : List Value), vals.length = (["words", "starts"] : List Str).length → bindArgs (Calls.docDef (recAt PySem.Challenge.pw_uf040006_13 18).name (recAt PySem.Challenge.pw_uf040006_13 18).params (recAt PySem.Challenge.pw_uf040006_13 18).body (recAt PySem.Challenge.pw_uf040006_13 18).scope pm code doc) ⟨vals, []⟩ = pure ((["words", "starts"] : List Str).zip vals) := by
  intro pm code doc vals h
  obtain ⟨v0, v1, rfl⟩ := len2 h
  rfl
theorem fn_need_starts {c : Cx} (ok : c.Ok) (B : Bi c) (X : Xs c) (h_are_starts : Fn c false 1 "are_starts" F_are_starts) (hf : FnRec c (recAt PySem.Challenge.pw_uf040006_13 18)) : Fn c false 2 "need_starts" F_need_starts :=
  fn_of (ps := ["words", "starts"]) 0 ok hf (den_need_starts ok B X h_are_starts) bind_need_starts
noncomputable def s_need_words_1 : G → Option O := fun Γ => bindE (bindR (bindR (bindR (getV 0 Γ) fun a108 => bindR (bindR (getV 1 Γ) fun a106 => bindR (some (.ok [])) fun a107 => some (.ok (a106.1 :: a107))) fun a109 => some (.ok (a108.1 :: a109))) F_long_word) fun a110 => bindR (some (.ok (.none, 2))) fun a111 => bindR (isnF [a110.1, a111.1]) fun a112 => (truthD a112.1).map .ok) Γ fun a113 => if a113 then (bindO (some (.raise "LongWord")) fun Γ => some (.next Γ)) else (some (.next Γ))
noncomputable def f_need_words : G → Option O := fun Γ => bindO (s_need_words_1 Γ) fun Γ => some (.next Γ)
noncomputable def F_need_words : List D → Option (R (D × Nat)) := fnF 2 0 f_need_words
theorem den_need_words {c : Cx} (ok : c.Ok) (B : Bi c) (X : Xs c) (h_long_word : Fn c false 2 "long_word" F_long_word) : DenSs c false 2 (recAt PySem.Challenge.pw_uf040006_13 19).scope ["words", "width"] (recAt PySem.Challenge.pw_uf040006_13 19).body f_need_words :=
  denSs_cons (denS_if (denB_cmp op_isn (den_call ok h_long_word (denA_cons (den_var 0) (denA_cons (den_var 1) (denA_nil)))) (den_none)) (denSs_cons (denS_raise ok X) (denSs_nil)) (denSs_nil)) (denSs_nil)
theorem bind_need_words : ∀ pm code doc (vals : List Value), vals.length = (["words", "width"] : List Str).length → bindArgs (Calls.docDef (recAt PySem.Challenge.pw_uf040006_13 19).name (recAt PySem.Challenge.pw_uf040006_13 19).params (recAt PySem.Challenge.pw_uf040006_13 19).body (recAt PySem.Challenge.pw_uf040006_13 19).scope pm code doc) ⟨vals, []⟩ = pure ((["words", "width"] : List Str).zip vals) := by
  intro pm code doc vals h
  obtain ⟨v0, v1, rfl⟩ := len2 h
  rfl
theorem fn_need_words {c : Cx} (ok : c.Ok) (B : Bi c) (X : Xs c) (h_long_word : Fn c false 2 "long_word" F_long_word) (hf : FnRec c (recAt PySem.Challenge.pw_uf040006_13 19)) : Fn c false 3 "need_words" F_need_words :=
  fn_of (ps := ["words", "width"]) 0 ok hf (den_need_words ok B X h_long_word) bind_need_words
noncomputable def s_bounds_of_1 : G → Option O := fun Γ => bindE (bindR (bindR (getV 1 Γ) fun a115 => bindR (bindR (some (.ok (.int 1, 2))) asIntR) fun a116 => bindR (some (.ok none)) fun a117 => sliceF a116 a117 a115.1) fun a122 => bindR (bindR (bindR (bindR (bindR (getV 0 Γ) fun a118 => bindR (some (.ok [])) fun a119 => some (.ok (a118.1 :: a119))) lenF) fun a120 => bindR (some (.ok [])) fun a121 => some (.ok (a120.1 :: a121))) listF) fun a123 => addF [a122.1, a123.1]) Γ fun a114 => some (.next (setV [1, 0] 2 a114 Γ))
noncomputable def e_bounds_of_1 : G → Option (R (D × Nat)) := fun Γ => bindR (bindR (bindR (getV 1 Γ) fun a128 => bindR (getV 0 Γ) fun a129 => itemF [a128.1, a129.1]) fun a134 => bindR (bindR (bindR (getV 2 Γ) fun a130 => bindR (getV 0 Γ) fun a131 => itemF [a130.1, a131.1]) fun a132 => bindR (some (.ok [])) fun a133 => some (.ok (a132.1 :: a133))) fun a135 => some (.ok (a134.1 :: a135))) tupF
noncomputable def s_bounds_of_2 : G → Option O := fun Γ => bindE (bindR (bindR (bindR (bindR (bindR (getV 1 Γ) fun a124 => bindR (some (.ok [])) fun a125 => some (.ok (a124.1 :: a125))) lenF) fun a126 => bindR (some (.ok [])) fun a127 => some (.ok (a126.1 :: a127))) rngF) (compF e_bounds_of_1 (fun _ => some (.ok true)) [1, 2] Γ)) Γ fun a136 => some (.ret a136.1 a136.2)
noncomputable def f_bounds_of : G → Option O := fun Γ => bindO (s_bounds_of_1 Γ) fun Γ => bindO (s_bounds_of_2 Γ) fun Γ => some (.next Γ)
noncomputable def F_bounds_of : List D → Option (R (D × Nat)) := fnF 2 1 f_bounds_of
theorem den_bounds_of {c : Cx} (ok : c.Ok) (B : Bi c)  : DenSs c false 0 (recAt PySem.Challenge.pw_uf040006_13 20).scope ["words", "starts", "ends"] (recAt PySem.Challenge.pw_uf040006_13 20).body f_bounds_of :=
  denSs_cons (denS_assign 2 (den_bin op_add (den_slice (den_var 1) (denO_some (den_int)) denO_none) (den_list (denA_cons (den_bi ok B.len op_len (denA_cons (den_var 0) (denA_nil))) (denA_nil))))) (denSs_cons (denS_return (den_comp [1, 2] (den_range ok B.range_ (denA_cons (den_bi ok B.len op_len (denA_cons (den_var 1) (denA_nil))) (denA_nil))) denT_nil (den_tup (denA_cons (den_idx (den_var 1) (den_var 0)) (denA_cons (den_idx (den_var 2) (den_var 0)) (denA_nil)))))) (denSs_nil))
theorem bind_bounds_of : ∀ pm code doc (vals : List Value), vals.length = (["words", "starts"] : List Str).length → bindArgs (Calls.docDef (recAt PySem.Challenge.pw_uf040006_13 20).name (recAt PySem.Challenge.pw_uf040006_13 20).params (recAt PySem.Challenge.pw_uf040006_13 20).body (recAt PySem.Challenge.pw_uf040006_13 20).scope pm code doc) ⟨vals, []⟩ = pure ((["words", "starts"] : List Str).zip vals) := by
  intro pm code doc vals h
  obtain ⟨v0, v1, rfl⟩ := len2 h
  rfl
theorem fn_bounds_of {c : Cx} (ok : c.Ok) (B : Bi c)  (hf : FnRec c (recAt PySem.Challenge.pw_uf040006_13 20)) : Fn c false 1 "bounds_of" F_bounds_of :=
  fn_of (ps := ["words", "starts"]) 1 ok hf (den_bounds_of ok B ) bind_bounds_of
noncomputable def s_lines_of_1 : G → Option O := fun Γ => bindE (bindR (bindR (getV 0 Γ) fun a139 => bindR (bindR (getV 1 Γ) fun a137 => bindR (some (.ok [])) fun a138 => some (.ok (a137.1 :: a138))) fun a140 => some (.ok (a139.1 :: a140))) F_need_starts) Γ fun _ => some (.next Γ)
noncomputable def e_lines_of_1 : G → Option (R (D × Nat)) := fun Γ => bindR (some (.ok (.str [32], 2))) fun a154 => methF joinF a154.1 (bindR (bindR (getV 1 Γ) fun a149 => bindR (bindR (bindR (getV 0 Γ) fun a145 => bindR (some (.ok (.int 0, 2))) fun a146 => itemF [a145.1, a146.1]) asIntR) fun a150 => bindR (bindR (bindR (getV 0 Γ) fun a147 => bindR (some (.ok (.int 1, 2))) fun a148 => itemF [a147.1, a148.1]) asIntR) fun a151 => sliceF a150 a151 a149.1) fun a152 => bindR (some (.ok [])) fun a153 => some (.ok (a152.1 :: a153)))
noncomputable def s_lines_of_2 : G → Option O := fun Γ => bindE (bindR (bindR (bindR (bindR (getV 0 Γ) fun a143 => bindR (bindR (getV 1 Γ) fun a141 => bindR (some (.ok [])) fun a142 => some (.ok (a141.1 :: a142))) fun a144 => some (.ok (a143.1 :: a144))) F_bounds_of) itF) (compF e_lines_of_1 (fun _ => some (.ok true)) [0] Γ)) Γ fun a155 => some (.ret a155.1 a155.2)
noncomputable def f_lines_of : G → Option O := fun Γ => bindO (s_lines_of_1 Γ) fun Γ => bindO (s_lines_of_2 Γ) fun Γ => some (.next Γ)
noncomputable def F_lines_of : List D → Option (R (D × Nat)) := fnF 2 0 f_lines_of
theorem den_lines_of {c : Cx} (ok : c.Ok) (B : Bi c) (h_bounds_of : Fn c false 2 "bounds_of" F_bounds_of) (h_need_starts : Fn c false 2 "need_starts" F_need_starts) : DenSs c false 2 (recAt PySem.Challenge.pw_uf040006_13 21).scope ["words", "starts"] (recAt PySem.Challenge.pw_uf040006_13 21).body f_lines_of :=
  denSs_cons (denS_expr (den_call ok h_need_starts (denA_cons (den_var 0) (denA_cons (den_var 1) (denA_nil))))) (denSs_cons (denS_return (den_comp [0] (den_it (den_call ok h_bounds_of (denA_cons (den_var 0) (denA_cons (den_var 1) (denA_nil))))) denT_nil (den_join (den_strL) (denA_cons (den_slice (den_var 1) (denO_some (den_idx (den_var 0) (den_int))) (denO_some (den_idx (den_var 0) (den_int)))) (denA_nil))))) (denSs_nil))
theorem bind_lines_of : ∀ pm code doc (vals : List Value), vals.length = (["words", "starts"] : List Str).length → bindArgs (Calls.docDef (recAt PySem.Challenge.pw_uf040006_13 21).name (recAt PySem.Challenge.pw_uf040006_13 21).params (recAt PySem.Challenge.pw_uf040006_13 21).body (recAt PySem.Challenge.pw_uf040006_13 21).scope pm code doc) ⟨vals, []⟩ = pure ((["words", "starts"] : List Str).zip vals) := by
  intro pm code doc vals h
  obtain ⟨v0, v1, rfl⟩ := len2 h
  rfl
theorem fn_lines_of {c : Cx} (ok : c.Ok) (B : Bi c) (h_bounds_of : Fn c false 2 "bounds_of" F_bounds_of) (h_need_starts : Fn c false 2 "need_starts" F_need_starts) (hf : FnRec c (recAt PySem.Challenge.pw_uf040006_13 21)) : Fn c false 3 "lines_of" F_lines_of :=
  fn_of (ps := ["words", "starts"]) 0 ok hf (den_lines_of ok B h_bounds_of h_need_starts) bind_lines_of
noncomputable def s_sums_from_1 : G → Option O := fun Γ => bindE (bindR (some (.ok [])) listF) Γ fun a156 => some (.next (setV [] 4 a156 Γ))
noncomputable def s_sums_from_2 : G → Option O := fun Γ => bindE (bindR (some (.ok (.int 1, 2))) fun a158 => negF [a158.1]) Γ fun a157 => some (.next (setV [] 5 a157 Γ))
noncomputable def a_sums_from_1 : G → Option (R (D × Nat)) := fun Γ => bindR (bindR (getV 6 Γ) fun a191 => bindR (bindR (some (.ok (.int 0, 2))) fun a189 => bindR (some (.ok [])) fun a190 => some (.ok (a189.1 :: a190))) fun a192 => some (.ok (a191.1 :: a192))) tupF
noncomputable def a_sums_from_2 : G → Option (R (D × Nat)) := fun Γ => bindR (bindR (getV 6 Γ) fun a205 => bindR (bindR (bindR (bindR (bindR (getV 1 Γ) fun a193 => bindR (getV 5 Γ) fun a194 => subF [a193.1, a194.1]) fun a197 => bindR (bindR (getV 1 Γ) fun a195 => bindR (getV 5 Γ) fun a196 => subF [a195.1, a196.1]) fun a198 => mulF [a197.1, a198.1]) fun a201 => bindR (bindR (getV 2 Γ) fun a199 => bindR (getV 6 Γ) fun a200 => itemF [a199.1, a200.1]) fun a202 => addF [a201.1, a202.1]) fun a203 => bindR (some (.ok [])) fun a204 => some (.ok (a203.1 :: a204))) fun a206 => some (.ok (a205.1 :: a206))) tupF
noncomputable def b_sums_from_1 : G → Option O := fun Γ => bindO (bindE (bindR (bindR (getV 5 Γ) fun a170 => bindR (some (.ok (.int 1, 2))) fun a171 => addF [a170.1, a171.1]) fun a178 => bindR (bindR (bindR (bindR (getV 0 Γ) fun a174 => bindR (bindR (getV 6 Γ) fun a172 => bindR (some (.ok (.int 1, 2))) fun a173 => subF [a172.1, a173.1]) fun a175 => itemF [a174.1, a175.1]) fun a176 => bindR (some (.ok [])) fun a177 => some (.ok (a176.1 :: a177))) lenF) fun a179 => addF [a178.1, a179.1]) Γ fun a169 => some (.next (setV [5, 0, 6] 5 a169 Γ))) fun Γ => bindO (bindE (bindR (getV 5 Γ) fun a180 => bindR (getV 1 Γ) fun a181 => bindR (gtF [a180.1, a181.1]) fun a182 => (truthD a182.1).map .ok) Γ fun a183 => if a183 then (bindO (some (.brk Γ)) fun Γ => some (.next Γ)) else (some (.next Γ))) fun Γ => bindO (bindE (bindR (getV 6 Γ) fun a186 => bindR (bindR (bindR (getV 0 Γ) fun a184 => bindR (some (.ok [])) fun a185 => some (.ok (a184.1 :: a185))) lenF) fun a187 => bindR (eqF [a186.1, a187.1]) fun a188 => (truthD a188.1).map .ok) Γ fun a207 => if a207 then (bindO (appF [6] 4 a_sums_from_1 Γ) fun Γ => some (.next Γ)) else (bindO (appF [6, 1, 5, 1, 5, 2, 6] 4 a_sums_from_2 Γ) fun Γ => some (.next Γ))) fun Γ => some (.next Γ)
noncomputable def s_sums_from_3 : G → Option O := fun Γ => forF [] 6 (fun Γ => bindR (bindR (bindR (getV 3 Γ) fun a159 => bindR (some (.ok (.int 1, 2))) fun a160 => addF [a159.1, a160.1]) fun a167 => bindR (bindR (bindR (bindR (bindR (getV 0 Γ) fun a161 => bindR (some (.ok [])) fun a162 => some (.ok (a161.1 :: a162))) lenF) fun a163 => bindR (some (.ok (.int 1, 2))) fun a164 => addF [a163.1, a164.1]) fun a165 => bindR (some (.ok [])) fun a166 => some (.ok (a165.1 :: a166))) fun a168 => some (.ok (a167.1 :: a168))) rngF) b_sums_from_1 Γ
noncomputable def s_sums_from_4 : G → Option O := fun Γ => retV 4 Γ
noncomputable def f_sums_from : G → Option O := fun Γ => bindO (s_sums_from_1 Γ) fun Γ => bindO (s_sums_from_2 Γ) fun Γ => bindO (s_sums_from_3 Γ) fun Γ => bindO (s_sums_from_4 Γ) fun Γ => some (.next Γ)
noncomputable def F_sums_from : List D → Option (R (D × Nat)) := fnF 4 3 f_sums_from
theorem den_sums_from {c : Cx} (ok : c.Ok) (B : Bi c)  : DenSs c false 0 (recAt PySem.Challenge.pw_uf040006_13 23).scope ["words", "width", "table", "at", "found", "size", "end"] (recAt PySem.Challenge.pw_uf040006_13 23).body f_sums_from :=
  denSs_cons (denS_assign 4 (den_list (denA_nil))) (denSs_cons (denS_assign 5 (den_un op_neg (den_int))) (denSs_cons (denS_for 6 (den_range ok B.range_ (denA_cons (den_bin op_add (den_var 3) (den_int)) (denA_cons (den_bin op_add (den_bi ok B.len op_len (denA_cons (den_var 0) (denA_nil))) (den_int)) (denA_nil)))) (denSs_cons (denS_assign 5 (den_bin op_add (den_bin op_add (den_var 5) (den_int)) (den_bi ok B.len op_len (denA_cons (den_idx (den_var 0) (den_bin op_sub (den_var 6) (den_int))) (denA_nil))))) (denSs_cons (denS_if (denB_cmp op_gt (den_var 5) (den_var 1)) (denSs_cons (denS_break) (denSs_nil)) (denSs_nil)) (denSs_cons (denS_if (denB_cmp op_eq (den_var 6) (den_bi ok B.len op_len (denA_cons (den_var 0) (denA_nil)))) (denSs_cons (denS_append 4 (den_tup (denA_cons (den_var 6) (denA_cons (den_int) (denA_nil))))) (denSs_nil)) (denSs_cons (denS_append 4 (den_tup (denA_cons (den_var 6) (denA_cons (den_bin op_add (den_bin op_mul (den_bin op_sub (den_var 1) (den_var 5)) (den_bin op_sub (den_var 1) (den_var 5))) (den_idx (den_var 2) (den_var 6))) (denA_nil))))) (denSs_nil))) (denSs_nil))))) (denSs_cons (denS_retvar 4) (denSs_nil))))
theorem bind_sums_from : ∀ pm code doc (vals : List Value), vals.length = (["words", "width", "table", "at"] : List Str).length → bindArgs (Calls.docDef (recAt PySem.Challenge.pw_uf040006_13 23).name (recAt PySem.Challenge.pw_uf040006_13 23).params (recAt PySem.Challenge.pw_uf040006_13 23).body (recAt PySem.Challenge.pw_uf040006_13 23).scope pm code doc) ⟨vals, []⟩ = pure ((["words", "width", "table", "at"] : List Str).zip vals) := by
  intro pm code doc vals h
  obtain ⟨v0, v1, v2, v3, rfl⟩ := len4 h
  rfl
theorem fn_sums_from {c : Cx} (ok : c.Ok) (B : Bi c)  (hf : FnRec c (recAt PySem.Challenge.pw_uf040006_13 23)) : Fn c false 1 "sums_from" F_sums_from :=
  fn_of (ps := ["words", "width", "table", "at"]) 3 ok hf (den_sums_from ok B ) bind_sums_from
noncomputable def s_table_of_1 : G → Option O := fun Γ => bindE (bindR (bindR (getV 0 Γ) fun a210 => bindR (bindR (getV 1 Γ) fun a208 => bindR (some (.ok [])) fun a209 => some (.ok (a208.1 :: a209))) fun a211 => some (.ok (a210.1 :: a211))) F_need_words) Γ fun _ => some (.next Γ)
noncomputable def e_table_of_1 : G → Option (R (D × Nat)) := fun Γ => some (.ok (.int 0, 2))
noncomputable def s_table_of_2 : G → Option O := fun Γ => bindE (bindR (bindR (bindR (bindR (bindR (bindR (getV 0 Γ) fun a213 => bindR (some (.ok [])) fun a214 => some (.ok (a213.1 :: a214))) lenF) fun a215 => bindR (some (.ok (.int 1, 2))) fun a216 => addF [a215.1, a216.1]) fun a217 => bindR (some (.ok [])) fun a218 => some (.ok (a217.1 :: a218))) rngF) (compF e_table_of_1 (fun _ => some (.ok true)) [] Γ)) Γ fun a212 => some (.next (setV [] 2 a212 Γ))
noncomputable def e_table_of_2 : G → Option (R (D × Nat)) := fun Γ => bindR (getV 0 Γ) fun a239 => bindR (some (.ok (.int 1, 2))) fun a240 => itemF [a239.1, a240.1]
noncomputable def a_table_of_1 : G → Option (R (D × Nat)) := fun Γ => bindR (bindR (bindR (bindR (bindR (bindR (getV 0 Γ) fun a237 => bindR (bindR (getV 1 Γ) fun a235 => bindR (bindR (getV 2 Γ) fun a233 => bindR (bindR (getV 3 Γ) fun a231 => bindR (some (.ok [])) fun a232 => some (.ok (a231.1 :: a232))) fun a234 => some (.ok (a233.1 :: a234))) fun a236 => some (.ok (a235.1 :: a236))) fun a238 => some (.ok (a237.1 :: a238))) F_sums_from) itF) (compF e_table_of_2 (fun _ => some (.ok true)) [] Γ)) fun a241 => bindR (some (.ok [])) fun a242 => some (.ok (a241.1 :: a242))) minF
noncomputable def b_table_of_1 : G → Option O := fun Γ => bindO (setF [0, 1, 2, 3] 2 a_table_of_1 (fun Γ => getV 3 Γ) Γ) fun Γ => some (.next Γ)
noncomputable def s_table_of_3 : G → Option O := fun Γ => forF [] 3 (fun Γ => bindR (bindR (bindR (bindR (bindR (getV 0 Γ) fun a219 => bindR (some (.ok [])) fun a220 => some (.ok (a219.1 :: a220))) lenF) fun a221 => bindR (some (.ok (.int 1, 2))) fun a222 => subF [a221.1, a222.1]) fun a229 => bindR (bindR (bindR (some (.ok (.int 1, 2))) fun a223 => negF [a223.1]) fun a227 => bindR (bindR (bindR (some (.ok (.int 1, 2))) fun a224 => negF [a224.1]) fun a225 => bindR (some (.ok [])) fun a226 => some (.ok (a225.1 :: a226))) fun a228 => some (.ok (a227.1 :: a228))) fun a230 => some (.ok (a229.1 :: a230))) rngF) b_table_of_1 Γ
noncomputable def s_table_of_4 : G → Option O := fun Γ => retV 2 Γ
noncomputable def f_table_of : G → Option O := fun Γ => bindO (s_table_of_1 Γ) fun Γ => bindO (s_table_of_2 Γ) fun Γ => bindO (s_table_of_3 Γ) fun Γ => bindO (s_table_of_4 Γ) fun Γ => some (.next Γ)
noncomputable def F_table_of : List D → Option (R (D × Nat)) := fnF 2 2 f_table_of
theorem den_table_of {c : Cx} (ok : c.Ok) (B : Bi c) (h_need_words : Fn c false 3 "need_words" F_need_words) (h_sums_from : Fn c false 3 "sums_from" F_sums_from) : DenSs c false 3 (recAt PySem.Challenge.pw_uf040006_13 24).scope ["words", "width", "table", "at"] (recAt PySem.Challenge.pw_uf040006_13 24).body f_table_of :=
  denSs_cons (denS_expr (den_call ok h_need_words (denA_cons (den_var 0) (denA_cons (den_var 1) (denA_nil))))) (denSs_cons (denS_assignC 2 [] (den_range ok B.range_ (denA_cons (den_bin op_add (den_bi ok B.len op_len (denA_cons (den_var 0) (denA_nil))) (den_int)) (denA_nil))) denT_nil (den_int)) (denSs_cons (denS_for 3 (den_range ok B.range_ (denA_cons (den_bin op_sub (den_bi ok B.len op_len (denA_cons (den_var 0) (denA_nil))) (den_int)) (denA_cons (den_un op_neg (den_int)) (denA_cons (den_un op_neg (den_int)) (denA_nil))))) (denSs_cons (denS_setitem 2 (den_bi ok B.min op_min (denA_cons (den_comp [] (den_it (den_call ok h_sums_from (denA_cons (den_var 0) (denA_cons (den_var 1) (denA_cons (den_var 2) (denA_cons (den_var 3) (denA_nil))))))) denT_nil (den_idx (den_var 0) (den_int))) (denA_nil))) (den_var 3)) (denSs_nil))) (denSs_cons (denS_retvar 2) (denSs_nil))))
theorem bind_table_of : ∀ pm code doc (vals : List Value), vals.length = (["words", "width"] : List Str).length → bindArgs (Calls.docDef (recAt PySem.Challenge.pw_uf040006_13 24).name (recAt PySem.Challenge.pw_uf040006_13 24).params (recAt PySem.Challenge.pw_uf040006_13 24).body (recAt PySem.Challenge.pw_uf040006_13 24).scope pm code doc) ⟨vals, []⟩ = pure ((["words", "width"] : List Str).zip vals) := by
  intro pm code doc vals h
  obtain ⟨v0, v1, rfl⟩ := len2 h
  rfl
theorem fn_table_of {c : Cx} (ok : c.Ok) (B : Bi c) (h_need_words : Fn c false 3 "need_words" F_need_words) (h_sums_from : Fn c false 3 "sums_from" F_sums_from) (hf : FnRec c (recAt PySem.Challenge.pw_uf040006_13 24)) : Fn c false 4 "table_of" F_table_of :=
  fn_of (ps := ["words", "width"]) 2 ok hf (den_table_of ok B h_need_words h_sums_from) bind_table_of
noncomputable def s_best_starts_1 : G → Option O := fun Γ => bindE (bindR (bindR (getV 0 Γ) fun a246 => bindR (bindR (getV 1 Γ) fun a244 => bindR (some (.ok [])) fun a245 => some (.ok (a244.1 :: a245))) fun a247 => some (.ok (a246.1 :: a247))) F_table_of) Γ fun a243 => some (.next (setV [0, 1] 2 a243 Γ))
noncomputable def s_best_starts_2 : G → Option O := fun Γ => bindE (bindR (some (.ok [])) listF) Γ fun a248 => some (.next (setV [] 3 a248 Γ))
noncomputable def s_best_starts_3 : G → Option O := fun Γ => bindE (some (.ok (.int 0, 2))) Γ fun a249 => some (.next (setV [] 4 a249 Γ))
noncomputable def e_best_starts_1 : G → Option (R (D × Nat)) := fun Γ => bindR (getV 0 Γ) fun a264 => bindR (some (.ok (.int 0, 2))) fun a265 => itemF [a264.1, a265.1]
noncomputable def c_best_starts_1 : G → Option (R Bool) := fun Γ => bindR (bindR (getV 0 Γ) fun a266 => bindR (some (.ok (.int 1, 2))) fun a267 => itemF [a266.1, a267.1]) fun a270 => bindR (bindR (getV 1 Γ) fun a268 => bindR (getV 2 Γ) fun a269 => itemF [a268.1, a269.1]) fun a271 => bindR (eqF [a270.1, a271.1]) fun a272 => (truthD a272.1).map .ok
noncomputable def t_best_starts_1 : G → Option (R Bool) := fun Γ => bindR (getV 4 Γ) fun a252 => bindR (bindR (bindR (getV 0 Γ) fun a250 => bindR (some (.ok [])) fun a251 => some (.ok (a250.1 :: a251))) lenF) fun a253 => bindR (ltF [a252.1, a253.1]) fun a254 => (truthD a254.1).map .ok
noncomputable def b_best_starts_1 : G → Option O := fun Γ => bindO (appF [4] 3 (fun Γ => getV 4 Γ) Γ) fun Γ => bindO (bindE (bindR (bindR (bindR (bindR (bindR (bindR (getV 0 Γ) fun a262 => bindR (bindR (getV 1 Γ) fun a260 => bindR (bindR (getV 2 Γ) fun a258 => bindR (bindR (getV 4 Γ) fun a256 => bindR (some (.ok [])) fun a257 => some (.ok (a256.1 :: a257))) fun a259 => some (.ok (a258.1 :: a259))) fun a261 => some (.ok (a260.1 :: a261))) fun a263 => some (.ok (a262.1 :: a263))) F_sums_from) itF) (compF e_best_starts_1 c_best_starts_1 [2, 4] Γ)) fun a273 => bindR (some (.ok [])) fun a274 => some (.ok (a273.1 :: a274))) maxF) Γ fun a255 => some (.next (setV [0, 1, 2, 4, 2, 4] 4 a255 Γ))) fun Γ => some (.next Γ)
noncomputable def s_best_starts_4 : G → Option O := fun Γ => whileF t_best_starts_1 b_best_starts_1 100000 Γ
noncomputable def s_best_starts_5 : G → Option O := fun Γ => retV 3 Γ
noncomputable def f_best_starts : G → Option O := fun Γ => bindO (s_best_starts_1 Γ) fun Γ => bindO (s_best_starts_2 Γ) fun Γ => bindO (s_best_starts_3 Γ) fun Γ => bindO (s_best_starts_4 Γ) fun Γ => bindO (s_best_starts_5 Γ) fun Γ => some (.next Γ)
noncomputable def F_best_starts : List D → Option (R (D × Nat)) := fnF 2 3 f_best_starts
theorem den_best_starts {c : Cx} (ok : c.Ok) (B : Bi c) (h_sums_from : Fn c false 4 "sums_from" F_sums_from) (h_table_of : Fn c false 4 "table_of" F_table_of) : DenSs c false 4 (recAt PySem.Challenge.pw_uf040006_13 25).scope ["words", "width", "table", "found", "at"] (recAt PySem.Challenge.pw_uf040006_13 25).body f_best_starts :=
  denSs_cons (denS_assign 2 (den_call ok h_table_of (denA_cons (den_var 0) (denA_cons (den_var 1) (denA_nil))))) (denSs_cons (denS_assign 3 (den_list (denA_nil))) (denSs_cons (denS_assign 4 (den_int)) (denSs_cons (denS_while 100000 (denB_cmp op_lt (den_var 4) (den_bi ok B.len op_len (denA_cons (den_var 0) (denA_nil)))) (denSs_cons (denS_append 3 (den_var 4)) (denSs_cons (denS_assign 4 (den_bi ok B.max op_max (denA_cons (den_comp [2, 4] (den_it (den_call ok h_sums_from (denA_cons (den_var 0) (denA_cons (den_var 1) (denA_cons (den_var 2) (denA_cons (den_var 4) (denA_nil))))))) (denT_one (denB_cmp op_eq (den_idx (den_var 0) (den_int)) (den_idx (den_var 1) (den_var 2)))) (den_idx (den_var 0) (den_int))) (denA_nil)))) (denSs_nil)))) (denSs_cons (denS_retvar 3) (denSs_nil)))))
theorem bind_best_starts : ∀ pm code doc (vals : List Value), vals.length = (["words", "width"] : List Str).length → bindArgs (Calls.docDef (recAt PySem.Challenge.pw_uf040006_13 25).name (recAt PySem.Challenge.pw_uf040006_13 25).params (recAt PySem.Challenge.pw_uf040006_13 25).body (recAt PySem.Challenge.pw_uf040006_13 25).scope pm code doc) ⟨vals, []⟩ = pure ((["words", "width"] : List Str).zip vals) := by
  intro pm code doc vals h
  obtain ⟨v0, v1, rfl⟩ := len2 h
  rfl
theorem fn_best_starts {c : Cx} (ok : c.Ok) (B : Bi c) (h_sums_from : Fn c false 4 "sums_from" F_sums_from) (h_table_of : Fn c false 4 "table_of" F_table_of) (hf : FnRec c (recAt PySem.Challenge.pw_uf040006_13 25)) : Fn c false 5 "best_starts" F_best_starts :=
  fn_of (ps := ["words", "width"]) 3 ok hf (den_best_starts ok B h_sums_from h_table_of) bind_best_starts
noncomputable def e_words_of_1 : G → Option (R (D × Nat)) := fun Γ => getV 0 Γ
noncomputable def c_words_of_1 : G → Option (R Bool) := fun Γ => bindR (getV 0 Γ) fun a278 => bindR (some (.ok (.str [], 2))) fun a279 => bindR (neF [a278.1, a279.1]) fun a280 => (truthD a280.1).map .ok
noncomputable def s_words_of_1 : G → Option O := fun Γ => bindE (bindR (bindR (bindR (bindR (getV 0 Γ) (replF 10 32)) fun a277 => methF splitF a277.1 (bindR (some (.ok (.str [32], 2))) fun a275 => bindR (some (.ok [])) fun a276 => some (.ok (a275.1 :: a276)))) itF) (compF e_words_of_1 c_words_of_1 [] Γ)) Γ fun a281 => some (.ret a281.1 a281.2)
noncomputable def f_words_of : G → Option O := fun Γ => bindO (s_words_of_1 Γ) fun Γ => some (.next Γ)
noncomputable def F_words_of : List D → Option (R (D × Nat)) := fnF 1 0 f_words_of
theorem den_words_of {c : Cx} (ok : c.Ok) (B : Bi c)  : DenSs c false 0 (recAt PySem.Challenge.pw_uf040006_13 27).scope ["text"] (recAt PySem.Challenge.pw_uf040006_13 27).body f_words_of :=
  denSs_cons (denS_return (den_comp [] (den_it (den_split (den_repl 10 32 (den_var 0)) (denA_cons (den_strL) (denA_nil)))) (denT_one (denB_cmp op_ne (den_var 0) (den_strL))) (den_var 0))) (denSs_nil)
theorem bind_words_of : ∀ pm code doc (vals : List Value), vals.length = (["text"] : List Str).length → bindArgs (Calls.docDef (recAt PySem.Challenge.pw_uf040006_13 27).name (recAt PySem.Challenge.pw_uf040006_13 27).params (recAt PySem.Challenge.pw_uf040006_13 27).body (recAt PySem.Challenge.pw_uf040006_13 27).scope pm code doc) ⟨vals, []⟩ = pure ((["text"] : List Str).zip vals) := by
  intro pm code doc vals h
  obtain ⟨v0, rfl⟩ := len1 h
  rfl
theorem fn_words_of {c : Cx} (ok : c.Ok) (B : Bi c)  (hf : FnRec c (recAt PySem.Challenge.pw_uf040006_13 27)) : Fn c false 1 "words_of" F_words_of :=
  fn_of (ps := ["text"]) 0 ok hf (den_words_of ok B ) bind_words_of
noncomputable def s_paragraphs_of_1 : G → Option O := fun Γ => bindE (bindR (some (.ok [])) listF) Γ fun a282 => some (.next (setV [] 1 a282 Γ))
noncomputable def s_paragraphs_of_2 : G → Option O := fun Γ => bindE (some (.ok (.bool false, 2))) Γ fun a283 => some (.next (setV [] 2 a283 Γ))
noncomputable def a_paragraphs_of_1 : G → Option (R (D × Nat)) := fun Γ => bindR (some (.ok (.int 1, 2))) fun a295 => negF [a295.1]
noncomputable def b_paragraphs_of_1 : G → Option O := fun Γ => bindO (bindE (bindR (bindR (getV 3 Γ) fun a288 => bindR (some (.ok [])) fun a289 => some (.ok (a288.1 :: a289))) F_words_of) Γ fun a287 => some (.next (setV [3] 4 a287 Γ))) fun Γ => bindO (bindE (bindR (getV 4 Γ) fun a290 => bindR (bindR (some (.ok [])) listF) fun a291 => bindR (eqF [a290.1, a291.1]) fun a292 => (truthD a292.1).map .ok) Γ fun a298 => if a298 then (bindO (bindE (some (.ok (.bool false, 2))) Γ fun a293 => some (.next (setV [] 2 a293 Γ))) fun Γ => some (.next Γ)) else (bindO (bindE (bindR (getV 2 Γ) fun a294 => (truthD a294.1).map .ok) Γ fun a297 => if a297 then (bindO (ext2F 1 a_paragraphs_of_1 (fun Γ => getV 4 Γ) Γ) fun Γ => some (.next Γ)) else (bindO (appM 1 4 Γ) fun Γ => bindO (bindE (some (.ok (.bool true, 2))) Γ fun a296 => some (.next (setV [] 2 a296 Γ))) fun Γ => some (.next Γ))) fun Γ => some (.next Γ))) fun Γ => some (.next Γ)
noncomputable def s_paragraphs_of_3 : G → Option O := fun Γ => forF [0] 3 (fun Γ => bindR (bindR (getV 0 Γ) fun a286 => methF splitF a286.1 (bindR (some (.ok (.str [10], 2))) fun a284 => bindR (some (.ok [])) fun a285 => some (.ok (a284.1 :: a285)))) itF) b_paragraphs_of_1 Γ
noncomputable def s_paragraphs_of_4 : G → Option O := fun Γ => retV 1 Γ
noncomputable def f_paragraphs_of : G → Option O := fun Γ => bindO (s_paragraphs_of_1 Γ) fun Γ => bindO (s_paragraphs_of_2 Γ) fun Γ => bindO (s_paragraphs_of_3 Γ) fun Γ => bindO (s_paragraphs_of_4 Γ) fun Γ => some (.next Γ)
noncomputable def F_paragraphs_of : List D → Option (R (D × Nat)) := fnF 1 4 f_paragraphs_of
theorem den_paragraphs_of {c : Cx} (ok : c.Ok) (B : Bi c) (h_words_of : Fn c false 1 "words_of" F_words_of) : DenSs c false 1 (recAt PySem.Challenge.pw_uf040006_13 28).scope ["text", "found", "going", "row", "words"] (recAt PySem.Challenge.pw_uf040006_13 28).body f_paragraphs_of :=
  denSs_cons (denS_assign 1 (den_list (denA_nil))) (denSs_cons (denS_assign 2 (den_bool)) (denSs_cons (denS_for 3 (den_it (den_split (den_var 0) (denA_cons (den_strL) (denA_nil)))) (denSs_cons (denS_assign 4 (den_call ok h_words_of (denA_cons (den_var 3) (denA_nil)))) (denSs_cons (denS_if (denB_cmp op_eq (den_var 4) (den_list (denA_nil))) (denSs_cons (denS_assign 2 (den_bool)) (denSs_nil)) (denSs_cons (denS_if (denB_val (den_var 2)) (denSs_cons (denS_extend2 1 (den_un op_neg (den_int)) (den_var 4)) (denSs_nil)) (denSs_cons (denS_appmove 1 4) (denSs_cons (denS_assign 2 (den_bool)) (denSs_nil)))) (denSs_nil))) (denSs_nil)))) (denSs_cons (denS_retvar 1) (denSs_nil))))
theorem bind_paragraphs_of : ∀ pm code doc (vals : List Value), vals.length = (["text"] : List Str).length → bindArgs (Calls.docDef (recAt PySem.Challenge.pw_uf040006_13 28).name (recAt PySem.Challenge.pw_uf040006_13 28).params (recAt PySem.Challenge.pw_uf040006_13 28).body (recAt PySem.Challenge.pw_uf040006_13 28).scope pm code doc) ⟨vals, []⟩ = pure ((["text"] : List Str).zip vals) := by
  intro pm code doc vals h
  obtain ⟨v0, rfl⟩ := len1 h
  rfl
theorem fn_paragraphs_of {c : Cx} (ok : c.Ok) (B : Bi c) (h_words_of : Fn c false 1 "words_of" F_words_of) (hf : FnRec c (recAt PySem.Challenge.pw_uf040006_13 28)) : Fn c false 2 "paragraphs_of" F_paragraphs_of :=
  fn_of (ps := ["text"]) 4 ok hf (den_paragraphs_of ok B h_words_of) bind_paragraphs_of
noncomputable def s_spread_line_1 : G → Option O := fun Γ => bindE (bindR (bindR (getV 1 Γ) fun a299 => bindR (some (.ok [])) fun a300 => some (.ok (a299.1 :: a300))) F_need_width) Γ fun _ => some (.next Γ)
noncomputable def s_spread_line_2 : G → Option O := fun Γ => bindE (bindR (bindR (bindR (getV 0 Γ) fun a307 => bindR (bindR (some (.ok (.int 0, 2))) fun a305 => bindR (bindR (bindR (bindR (getV 0 Γ) fun a301 => bindR (some (.ok [])) fun a302 => some (.ok (a301.1 :: a302))) lenF) fun a303 => bindR (some (.ok [])) fun a304 => some (.ok (a303.1 :: a304))) fun a306 => some (.ok (a305.1 :: a306))) fun a308 => some (.ok (a307.1 :: a308))) F_size_of) fun a309 => bindR (getV 1 Γ) fun a310 => bindR (gtF [a309.1, a310.1]) fun a311 => (truthD a311.1).map .ok) Γ fun a312 => if a312 then (bindO (some (.raise "TooWide")) fun Γ => some (.next Γ)) else (some (.next Γ))
noncomputable def s_spread_line_3 : G → Option O := fun Γ => bindE (bindR (bindR (bindR (getV 0 Γ) fun a313 => bindR (some (.ok [])) fun a314 => some (.ok (a313.1 :: a314))) lenF) fun a315 => bindR (some (.ok (.int 2, 2))) fun a316 => bindR (ltF [a315.1, a316.1]) fun a317 => (truthD a317.1).map .ok) Γ fun a322 => if a322 then (bindO (bindE (bindR (some (.ok (.str [], 2))) fun a320 => methF joinF a320.1 (bindR (getV 0 Γ) fun a318 => bindR (some (.ok [])) fun a319 => some (.ok (a318.1 :: a319)))) Γ fun a321 => some (.ret a321.1 a321.2)) fun Γ => some (.next Γ)) else (some (.next Γ))
noncomputable def e_spread_line_1 : G → Option (R (D × Nat)) := fun Γ => bindR (bindR (getV 0 Γ) fun a324 => bindR (some (.ok [])) fun a325 => some (.ok (a324.1 :: a325))) lenF
noncomputable def s_spread_line_4 : G → Option O := fun Γ => bindE (bindR (getV 1 Γ) fun a328 => bindR (bindR (bindR (bindR (bindR (getV 0 Γ) itF) (compF e_spread_line_1 (fun _ => some (.ok true)) [] Γ)) fun a326 => bindR (some (.ok [])) fun a327 => some (.ok (a326.1 :: a327))) sumF) fun a329 => subF [a328.1, a329.1]) Γ fun a323 => some (.next (setV [1, 0] 2 a323 Γ))
noncomputable def s_spread_line_5 : G → Option O := fun Γ => bindE (bindR (getV 2 Γ) fun a335 => bindR (bindR (bindR (bindR (getV 0 Γ) fun a331 => bindR (some (.ok [])) fun a332 => some (.ok (a331.1 :: a332))) lenF) fun a333 => bindR (some (.ok (.int 1, 2))) fun a334 => subF [a333.1, a334.1]) fun a336 => divF [a335.1, a336.1]) Γ fun a330 => some (.next (setV [2, 0] 3 a330 Γ))
noncomputable def s_spread_line_6 : G → Option O := fun Γ => bindE (bindR (getV 2 Γ) fun a344 => bindR (bindR (getV 3 Γ) fun a342 => bindR (bindR (bindR (bindR (getV 0 Γ) fun a338 => bindR (some (.ok [])) fun a339 => some (.ok (a338.1 :: a339))) lenF) fun a340 => bindR (some (.ok (.int 1, 2))) fun a341 => subF [a340.1, a341.1]) fun a343 => mulF [a342.1, a343.1]) fun a345 => subF [a344.1, a345.1]) Γ fun a337 => some (.next (setV [2, 3, 0] 4 a337 Γ))
noncomputable def s_spread_line_7 : G → Option O := fun Γ => bindE (bindR (getV 0 Γ) fun a347 => bindR (some (.ok (.int 0, 2))) fun a348 => itemF [a347.1, a348.1]) Γ fun a346 => some (.next (setV [0] 5 a346 Γ))
noncomputable def b_spread_line_1 : G → Option O := fun Γ => bindO (bindE (getV 3 Γ) Γ fun a355 => some (.next (setV [3] 7 a355 Γ))) fun Γ => bindO (bindE (bindR (getV 6 Γ) fun a356 => bindR (getV 4 Γ) fun a357 => bindR (leF [a356.1, a357.1]) fun a358 => (truthD a358.1).map .ok) Γ fun a362 => if a362 then (bindO (bindE (bindR (getV 3 Γ) fun a360 => bindR (some (.ok (.int 1, 2))) fun a361 => addF [a360.1, a361.1]) Γ fun a359 => some (.next (setV [3] 7 a359 Γ))) fun Γ => some (.next Γ)) else (some (.next Γ))) fun Γ => bindO (bindE (bindR (bindR (getV 5 Γ) fun a366 => bindR (bindR (some (.ok (.str [32], 2))) fun a364 => bindR (getV 7 Γ) fun a365 => mulF [a364.1, a365.1]) fun a367 => addF [a366.1, a367.1]) fun a370 => bindR (bindR (getV 0 Γ) fun a368 => bindR (getV 6 Γ) fun a369 => itemF [a368.1, a369.1]) fun a371 => addF [a370.1, a371.1]) Γ fun a363 => some (.next (setV [5, 7, 0, 6] 5 a363 Γ))) fun Γ => some (.next Γ)
noncomputable def s_spread_line_8 : G → Option O := fun Γ => forF [] 6 (fun Γ => bindR (bindR (some (.ok (.int 1, 2))) fun a353 => bindR (bindR (bindR (bindR (getV 0 Γ) fun a349 => bindR (some (.ok [])) fun a350 => some (.ok (a349.1 :: a350))) lenF) fun a351 => bindR (some (.ok [])) fun a352 => some (.ok (a351.1 :: a352))) fun a354 => some (.ok (a353.1 :: a354))) rngF) b_spread_line_1 Γ
noncomputable def s_spread_line_9 : G → Option O := fun Γ => retV 5 Γ
noncomputable def f_spread_line : G → Option O := fun Γ => bindO (s_spread_line_1 Γ) fun Γ => bindO (s_spread_line_2 Γ) fun Γ => bindO (s_spread_line_3 Γ) fun Γ => bindO (s_spread_line_4 Γ) fun Γ => bindO (s_spread_line_5 Γ) fun Γ => bindO (s_spread_line_6 Γ) fun Γ => bindO (s_spread_line_7 Γ) fun Γ => bindO (s_spread_line_8 Γ) fun Γ => bindO (s_spread_line_9 Γ) fun Γ => some (.next Γ)
noncomputable def F_spread_line : List D → Option (R (D × Nat)) := fnF 2 6 f_spread_line
theorem den_spread_line {c : Cx} (ok : c.Ok) (B : Bi c) (X : Xs c) (h_need_width : Fn c false 1 "need_width" F_need_width) (h_size_of : Fn c false 1 "size_of" F_size_of) : DenSs c false 1 (recAt PySem.Challenge.pw_uf040006_13 30).scope ["words", "width", "blanks", "each", "more", "line", "at", "many"] (recAt PySem.Challenge.pw_uf040006_13 30).body f_spread_line :=
  denSs_cons (denS_expr (den_call ok h_need_width (denA_cons (den_var 1) (denA_nil)))) (denSs_cons (denS_if (denB_cmp op_gt (den_call ok h_size_of (denA_cons (den_var 0) (denA_cons (den_int) (denA_cons (den_bi ok B.len op_len (denA_cons (den_var 0) (denA_nil))) (denA_nil))))) (den_var 1)) (denSs_cons (denS_raise ok X) (denSs_nil)) (denSs_nil)) (denSs_cons (denS_if (denB_cmp op_lt (den_bi ok B.len op_len (denA_cons (den_var 0) (denA_nil))) (den_int)) (denSs_cons (denS_return (den_join (den_strL) (denA_cons (den_var 0) (denA_nil)))) (denSs_nil)) (denSs_nil)) (denSs_cons (denS_assign 2 (den_bin op_sub (den_var 1) (den_bi ok B.sum op_sum (denA_cons (den_comp [] (den_it (den_var 0)) denT_nil (den_bi ok B.len op_len (denA_cons (den_var 0) (denA_nil)))) (denA_nil))))) (denSs_cons (denS_assign 3 (den_bin op_div (den_var 2) (den_bin op_sub (den_bi ok B.len op_len (denA_cons (den_var 0) (denA_nil))) (den_int)))) (denSs_cons (denS_assign 4 (den_bin op_sub (den_var 2) (den_bin op_mul (den_var 3) (den_bin op_sub (den_bi ok B.len op_len (denA_cons (den_var 0) (denA_nil))) (den_int))))) (denSs_cons (denS_assign 5 (den_idx (den_var 0) (den_int))) (denSs_cons (denS_for 6 (den_range ok B.range_ (denA_cons (den_int) (denA_cons (den_bi ok B.len op_len (denA_cons (den_var 0) (denA_nil))) (denA_nil)))) (denSs_cons (denS_assign 7 (den_var 3)) (denSs_cons (denS_if (denB_cmp op_le (den_var 6) (den_var 4)) (denSs_cons (denS_assign 7 (den_bin op_add (den_var 3) (den_int))) (denSs_nil)) (denSs_nil)) (denSs_cons (denS_assign 5 (den_bin op_add (den_bin op_add (den_var 5) (den_bin op_mul (den_strL) (den_var 7))) (den_idx (den_var 0) (den_var 6)))) (denSs_nil))))) (denSs_cons (denS_retvar 5) (denSs_nil)))))))))
theorem bind_spread_line : ∀ pm code doc (vals : List Value), vals.length = (["words", "width"] : List Str).length → bindArgs (Calls.docDef (recAt PySem.Challenge.pw_uf040006_13 30).name (recAt PySem.Challenge.pw_uf040006_13 30).params (recAt PySem.Challenge.pw_uf040006_13 30).body (recAt PySem.Challenge.pw_uf040006_13 30).scope pm code doc) ⟨vals, []⟩ = pure ((["words", "width"] : List Str).zip vals) := by
  intro pm code doc vals h
  obtain ⟨v0, v1, rfl⟩ := len2 h
  rfl
theorem fn_spread_line {c : Cx} (ok : c.Ok) (B : Bi c) (X : Xs c) (h_need_width : Fn c false 1 "need_width" F_need_width) (h_size_of : Fn c false 1 "size_of" F_size_of) (hf : FnRec c (recAt PySem.Challenge.pw_uf040006_13 30)) : Fn c false 2 "spread_line" F_spread_line :=
  fn_of (ps := ["words", "width"]) 6 ok hf (den_spread_line ok B X h_need_width h_size_of) bind_spread_line
noncomputable def s_squared_lines_1 : G → Option O := fun Γ => bindE (bindR (bindR (getV 0 Γ) fun a379 => bindR (bindR (bindR (bindR (getV 0 Γ) fun a375 => bindR (bindR (getV 1 Γ) fun a373 => bindR (some (.ok [])) fun a374 => some (.ok (a373.1 :: a374))) fun a376 => some (.ok (a375.1 :: a376))) F_best_starts) fun a377 => bindR (some (.ok [])) fun a378 => some (.ok (a377.1 :: a378))) fun a380 => some (.ok (a379.1 :: a380))) F_lines_of) Γ fun a372 => some (.next (setV [0, 0, 1] 2 a372 Γ))
noncomputable def e_squared_lines_1 : G → Option (R (D × Nat)) := fun Γ => bindR (bindR (bindR (bindR (getV 0 Γ) fun a385 => bindR (some (.ok [])) fun a386 => some (.ok (a385.1 :: a386))) F_words_of) fun a389 => bindR (bindR (getV 1 Γ) fun a387 => bindR (some (.ok [])) fun a388 => some (.ok (a387.1 :: a388))) fun a390 => some (.ok (a389.1 :: a390))) F_spread_line
noncomputable def s_squared_lines_2 : G → Option O := fun Γ => bindE (bindR (bindR (bindR (bindR (getV 2 Γ) fun a382 => bindR (some (.ok none)) fun a383 => bindR (bindR (bindR (some (.ok (.int 1, 2))) fun a381 => negF [a381.1]) asIntR) fun a384 => sliceF a383 a384 a382.1) itF) (compF e_squared_lines_1 (fun _ => some (.ok true)) [1] Γ)) fun a395 => bindR (bindR (getV 2 Γ) fun a392 => bindR (bindR (bindR (some (.ok (.int 1, 2))) fun a391 => negF [a391.1]) asIntR) fun a393 => bindR (some (.ok none)) fun a394 => sliceF a393 a394 a392.1) fun a396 => addF [a395.1, a396.1]) Γ fun a397 => some (.ret a397.1 a397.2)
noncomputable def f_squared_lines : G → Option O := fun Γ => bindO (s_squared_lines_1 Γ) fun Γ => bindO (s_squared_lines_2 Γ) fun Γ => some (.next Γ)
noncomputable def F_squared_lines : List D → Option (R (D × Nat)) := fnF 2 1 f_squared_lines
theorem den_squared_lines {c : Cx} (ok : c.Ok) (B : Bi c) (h_best_starts : Fn c false 5 "best_starts" F_best_starts) (h_lines_of : Fn c false 5 "lines_of" F_lines_of) (h_spread_line : Fn c false 5 "spread_line" F_spread_line) (h_words_of : Fn c false 5 "words_of" F_words_of) : DenSs c false 5 (recAt PySem.Challenge.pw_uf040006_13 31).scope ["words", "width", "lines"] (recAt PySem.Challenge.pw_uf040006_13 31).body f_squared_lines :=
  denSs_cons (denS_assign 2 (den_call ok h_lines_of (denA_cons (den_var 0) (denA_cons (den_call ok h_best_starts (denA_cons (den_var 0) (denA_cons (den_var 1) (denA_nil)))) (denA_nil))))) (denSs_cons (denS_return (den_bin op_add (den_comp [1] (den_it (den_slice (den_var 2) denO_none (denO_some (den_un op_neg (den_int))))) denT_nil (den_call ok h_spread_line (denA_cons (den_call ok h_words_of (denA_cons (den_var 0) (denA_nil))) (denA_cons (den_var 1) (denA_nil))))) (den_slice (den_var 2) (denO_some (den_un op_neg (den_int))) denO_none))) (denSs_nil))
theorem bind_squared_lines : ∀ pm code doc (vals : List Value), vals.length = (["words", "width"] : List Str).length → bindArgs (Calls.docDef (recAt PySem.Challenge.pw_uf040006_13 31).name (recAt PySem.Challenge.pw_uf040006_13 31).params (recAt PySem.Challenge.pw_uf040006_13 31).body (recAt PySem.Challenge.pw_uf040006_13 31).scope pm code doc) ⟨vals, []⟩ = pure ((["words", "width"] : List Str).zip vals) := by
  intro pm code doc vals h
  obtain ⟨v0, v1, rfl⟩ := len2 h
  rfl
theorem fn_squared_lines {c : Cx} (ok : c.Ok) (B : Bi c) (h_best_starts : Fn c false 5 "best_starts" F_best_starts) (h_lines_of : Fn c false 5 "lines_of" F_lines_of) (h_spread_line : Fn c false 5 "spread_line" F_spread_line) (h_words_of : Fn c false 5 "words_of" F_words_of) (hf : FnRec c (recAt PySem.Challenge.pw_uf040006_13 31)) : Fn c false 6 "squared_lines" F_squared_lines :=
  fn_of (ps := ["words", "width"]) 1 ok hf (den_squared_lines ok B h_best_starts h_lines_of h_spread_line h_words_of) bind_squared_lines
noncomputable def s_squared_1 : G → Option O := fun Γ => bindE (bindR (bindR (bindR (bindR (getV 0 Γ) fun a398 => bindR (some (.ok [])) fun a399 => some (.ok (a398.1 :: a399))) F_words_of) fun a402 => bindR (bindR (getV 1 Γ) fun a400 => bindR (some (.ok [])) fun a401 => some (.ok (a400.1 :: a401))) fun a403 => some (.ok (a402.1 :: a403))) F_need_words) Γ fun _ => some (.next Γ)
noncomputable def e_squared_1 : G → Option (R (D × Nat)) := fun Γ => bindR (some (.ok (.str [10], 2))) fun a413 => methF joinF a413.1 (bindR (bindR (bindR (getV 0 Γ) fun a409 => bindR (bindR (getV 1 Γ) fun a407 => bindR (some (.ok [])) fun a408 => some (.ok (a407.1 :: a408))) fun a410 => some (.ok (a409.1 :: a410))) F_squared_lines) fun a411 => bindR (some (.ok [])) fun a412 => some (.ok (a411.1 :: a412)))
noncomputable def s_squared_2 : G → Option O := fun Γ => bindE (bindR (bindR (bindR (bindR (getV 0 Γ) fun a405 => bindR (some (.ok [])) fun a406 => some (.ok (a405.1 :: a406))) F_paragraphs_of) itF) (compF e_squared_1 (fun _ => some (.ok true)) [1] Γ)) Γ fun a404 => some (.next (setV [0, 1] 2 a404 Γ))
noncomputable def s_squared_3 : G → Option O := fun Γ => bindE (bindR (some (.ok (.str [10, 10], 2))) fun a416 => methF joinF a416.1 (bindR (getV 2 Γ) fun a414 => bindR (some (.ok [])) fun a415 => some (.ok (a414.1 :: a415)))) Γ fun a417 => some (.ret a417.1 a417.2)
noncomputable def f_squared : G → Option O := fun Γ => bindO (s_squared_1 Γ) fun Γ => bindO (s_squared_2 Γ) fun Γ => bindO (s_squared_3 Γ) fun Γ => some (.next Γ)
noncomputable def F_squared : List D → Option (R (D × Nat)) := fnF 2 1 f_squared
theorem den_squared {c : Cx} (ok : c.Ok) (B : Bi c) (h_need_words : Fn c false 6 "need_words" F_need_words) (h_paragraphs_of : Fn c false 6 "paragraphs_of" F_paragraphs_of) (h_squared_lines : Fn c false 6 "squared_lines" F_squared_lines) (h_words_of : Fn c false 6 "words_of" F_words_of) : DenSs c false 6 (recAt PySem.Challenge.pw_uf040006_13 32).scope ["text", "width", "rows"] (recAt PySem.Challenge.pw_uf040006_13 32).body f_squared :=
  denSs_cons (denS_expr (den_call ok h_need_words (denA_cons (den_call ok h_words_of (denA_cons (den_var 0) (denA_nil))) (denA_cons (den_var 1) (denA_nil))))) (denSs_cons (denS_assignC 2 [1] (den_it (den_call ok h_paragraphs_of (denA_cons (den_var 0) (denA_nil)))) denT_nil (den_join (den_strL) (denA_cons (den_call ok h_squared_lines (denA_cons (den_var 0) (denA_cons (den_var 1) (denA_nil)))) (denA_nil)))) (denSs_cons (denS_return (den_join (den_strL) (denA_cons (den_var 2) (denA_nil)))) (denSs_nil)))
theorem bind_squared : ∀ pm code doc (vals : List Value), vals.length = (["text", "width"] : List Str).length → bindArgs (Calls.docDef (recAt PySem.Challenge.pw_uf040006_13 32).name (recAt PySem.Challenge.pw_uf040006_13 32).params (recAt PySem.Challenge.pw_uf040006_13 32).body (recAt PySem.Challenge.pw_uf040006_13 32).scope pm code doc) ⟨vals, []⟩ = pure ((["text", "width"] : List Str).zip vals) := by
  intro pm code doc vals h
  obtain ⟨v0, v1, rfl⟩ := len2 h
  rfl
theorem fn_squared {c : Cx} (ok : c.Ok) (B : Bi c) (h_need_words : Fn c false 6 "need_words" F_need_words) (h_paragraphs_of : Fn c false 6 "paragraphs_of" F_paragraphs_of) (h_squared_lines : Fn c false 6 "squared_lines" F_squared_lines) (h_words_of : Fn c false 6 "words_of" F_words_of) (hf : FnRec c (recAt PySem.Challenge.pw_uf040006_13 32)) : Fn c false 7 "squared" F_squared :=
  fn_of (ps := ["text", "width"]) 1 ok hf (den_squared ok B h_need_words h_paragraphs_of h_squared_lines h_words_of) bind_squared
noncomputable def s__law_cell_at_1 : G → Option O := fun Γ => bindE (bindR (getV 1 Γ) fun a420 => bindR (bindR (bindR (getV 0 Γ) fun a418 => bindR (some (.ok [])) fun a419 => some (.ok (a418.1 :: a419))) lenF) fun a421 => bindR (ltF [a420.1, a421.1]) fun a422 => (truthD a422.1).map .ok) Γ fun a426 => if a426 then (bindO (bindE (bindR (getV 0 Γ) fun a423 => bindR (getV 1 Γ) fun a424 => itemF [a423.1, a424.1]) Γ fun a425 => some (.ret a425.1 a425.2)) fun Γ => some (.next Γ)) else (some (.next Γ))
noncomputable def s__law_cell_at_2 : G → Option O := fun Γ => bindE (some (.ok (.int 0, 2))) Γ fun a427 => some (.ret a427.1 a427.2)
noncomputable def f__law_cell_at : G → Option O := fun Γ => bindO (s__law_cell_at_1 Γ) fun Γ => bindO (s__law_cell_at_2 Γ) fun Γ => some (.next Γ)
noncomputable def F__law_cell_at : List D → Option (R (D × Nat)) := fnF 2 0 f__law_cell_at
theorem den__law_cell_at {c : Cx} (ok : c.Ok) (B : Bi c)  : DenSs c false 0 (recAt PySem.Challenge.pw_uf040006_13 34).scope ["_law_script", "_law_k"] (recAt PySem.Challenge.pw_uf040006_13 34).body f__law_cell_at :=
  denSs_cons (denS_if (denB_cmp op_lt (den_var 1) (den_bi ok B.len op_len (denA_cons (den_var 0) (denA_nil)))) (denSs_cons (denS_return (den_idx (den_var 0) (den_var 1))) (denSs_nil)) (denSs_nil)) (denSs_cons (denS_return (den_int)) (denSs_nil))
theorem bind__law_cell_at : ∀ pm code doc (vals : List Value), vals.length = (["_law_script", "_law_k"] : List Str).length → bindArgs (Calls.docDef (recAt PySem.Challenge.pw_uf040006_13 34).name (recAt PySem.Challenge.pw_uf040006_13 34).params (recAt PySem.Challenge.pw_uf040006_13 34).body (recAt PySem.Challenge.pw_uf040006_13 34).scope pm code doc) ⟨vals, []⟩ = pure ((["_law_script", "_law_k"] : List Str).zip vals) := by
  intro pm code doc vals h
  obtain ⟨v0, v1, rfl⟩ := len2 h
  rfl
theorem fn__law_cell_at {c : Cx} (ok : c.Ok) (B : Bi c)  (hf : FnRec c (recAt PySem.Challenge.pw_uf040006_13 34)) : Fn c false 1 "_law_cell_at" F__law_cell_at :=
  fn_of (ps := ["_law_script", "_law_k"]) 0 ok hf (den__law_cell_at ok B ) bind__law_cell_at
noncomputable def s__law_sign_by_1 : G → Option O := fun Γ => bindE (some (.ok (.str [33, 34, 35, 36, 38, 39, 40, 41, 42, 43, 44, 45, 46, 47, 48, 49, 50, 51, 52, 53, 54, 55, 56, 57, 58, 59, 60, 61, 62, 63, 64, 65, 66, 67, 68, 69, 70, 71, 72, 73, 74, 75, 76, 77, 78, 79, 80, 81, 82, 83, 84, 85, 86, 87, 88, 89, 90, 91, 92, 93, 94, 95, 96], 2))) Γ fun a428 => some (.next (setV [] 1 a428 Γ))
noncomputable def s__law_sign_by_2 : G → Option O := fun Γ => bindE (bindR (getV 1 Γ) fun a430 => bindR (some (.ok (.str [97, 98, 99, 100, 101, 102, 103, 104, 105, 106, 107, 108, 109, 110, 111, 112, 113, 114, 115, 116, 117, 118, 119, 120, 121, 122, 123, 124, 125, 126], 2))) fun a431 => addF [a430.1, a431.1]) Γ fun a429 => some (.next (setV [1] 1 a429 Γ))
noncomputable def s__law_sign_by_3 : G → Option O := fun Γ => bindE (bindR (getV 1 Γ) fun a434 => bindR (bindR (getV 0 Γ) fun a432 => bindR (some (.ok (.int 93, 2))) fun a433 => modF [a432.1, a433.1]) fun a435 => itemF [a434.1, a435.1]) Γ fun a436 => some (.ret a436.1 a436.2)
noncomputable def f__law_sign_by : G → Option O := fun Γ => bindO (s__law_sign_by_1 Γ) fun Γ => bindO (s__law_sign_by_2 Γ) fun Γ => bindO (s__law_sign_by_3 Γ) fun Γ => some (.next Γ)
noncomputable def F__law_sign_by : List D → Option (R (D × Nat)) := fnF 1 1 f__law_sign_by
theorem den__law_sign_by {c : Cx} (ok : c.Ok) (B : Bi c)  : DenSs c false 0 (recAt PySem.Challenge.pw_uf040006_13 35).scope ["_law_cell", "_law_some"] (recAt PySem.Challenge.pw_uf040006_13 35).body f__law_sign_by :=
  denSs_cons (denS_assign 1 (den_strL)) (denSs_cons (denS_assign 1 (den_bin op_add (den_var 1) (den_strL))) (denSs_cons (denS_return (den_idx (den_var 1) (den_bin op_mod (den_var 0) (den_int)))) (denSs_nil)))
theorem bind__law_sign_by : ∀ pm code doc (vals : List Value), vals.length = (["_law_cell"] : List Str).length → bindArgs (Calls.docDef (recAt PySem.Challenge.pw_uf040006_13 35).name (recAt PySem.Challenge.pw_uf040006_13 35).params (recAt PySem.Challenge.pw_uf040006_13 35).body (recAt PySem.Challenge.pw_uf040006_13 35).scope pm code doc) ⟨vals, []⟩ = pure ((["_law_cell"] : List Str).zip vals) := by
  intro pm code doc vals h
  obtain ⟨v0, rfl⟩ := len1 h
  rfl
theorem fn__law_sign_by {c : Cx} (ok : c.Ok) (B : Bi c)  (hf : FnRec c (recAt PySem.Challenge.pw_uf040006_13 35)) : Fn c false 1 "_law_sign_by" F__law_sign_by :=
  fn_of (ps := ["_law_cell"]) 1 ok hf (den__law_sign_by ok B ) bind__law_sign_by
noncomputable def s__law_text_by_1 : G → Option O := fun Γ => bindE (some (.ok (.str [], 2))) Γ fun a437 => some (.next (setV [] 2 a437 Γ))
noncomputable def e__law_text_by_1 : G → Option (R (D × Nat)) := fun Γ => bindR (bindR (bindR (bindR (getV 1 Γ) fun a499 => bindR (some (.ok (.int 15, 2))) fun a500 => divF [a499.1, a500.1]) fun a507 => bindR (bindR (getV 0 Γ) fun a505 => bindR (bindR (bindR (getV 1 Γ) fun a501 => bindR (some (.ok (.int 11, 2))) fun a502 => divF [a501.1, a502.1]) fun a503 => bindR (some (.ok (.int 7, 2))) fun a504 => modF [a503.1, a504.1]) fun a506 => mulF [a505.1, a506.1]) fun a508 => addF [a507.1, a508.1]) fun a509 => bindR (some (.ok [])) fun a510 => some (.ok (a509.1 :: a510))) F__law_sign_by
noncomputable def b__law_text_by_1 : G → Option O := fun Γ => bindO (bindE (bindR (bindR (getV 3 Γ) fun a438 => bindR (some (.ok (.int 3, 2))) fun a439 => modF [a438.1, a439.1]) fun a440 => bindR (some (.ok (.int 0, 2))) fun a441 => bindR (eqF [a440.1, a441.1]) fun a442 => (truthD a442.1).map .ok) Γ fun a517 => if a517 then (bindO (bindE (bindR (getV 2 Γ) fun a452 => bindR (bindR (some (.ok (.str [32], 2))) fun a450 => bindR (bindR (some (.ok (.int 1, 2))) fun a448 => bindR (bindR (bindR (getV 3 Γ) fun a444 => bindR (some (.ok (.int 3, 2))) fun a445 => divF [a444.1, a445.1]) fun a446 => bindR (some (.ok (.int 3, 2))) fun a447 => modF [a446.1, a447.1]) fun a449 => addF [a448.1, a449.1]) fun a451 => mulF [a450.1, a451.1]) fun a453 => addF [a452.1, a453.1]) Γ fun a443 => some (.next (setV [2, 3] 2 a443 Γ))) fun Γ => some (.next Γ)) else (bindO (bindE (bindR (bindR (getV 3 Γ) fun a454 => bindR (some (.ok (.int 3, 2))) fun a455 => modF [a454.1, a455.1]) fun a456 => bindR (some (.ok (.int 1, 2))) fun a457 => bindR (eqF [a456.1, a457.1]) fun a458 => (truthD a458.1).map .ok) Γ fun a516 => if a516 then (bindO (bindE (bindR (getV 2 Γ) fun a473 => bindR (bindR (some (.ok (.str [10], 2))) fun a471 => bindR (bindR (some (.ok (.int 1, 2))) fun a469 => bindR (bindR (bindR (bindR (getV 3 Γ) fun a460 => bindR (some (.ok (.int 3, 2))) fun a461 => divF [a460.1, a461.1]) fun a462 => bindR (some (.ok (.int 3, 2))) fun a463 => modF [a462.1, a463.1]) fun a467 => bindR (bindR (bindR (bindR (getV 1 Γ) fun a464 => notF [a464.1]) fun a465 => bindR (some (.ok [])) fun a466 => some (.ok (a465.1 :: a466))) intF) fun a468 => mulF [a467.1, a468.1]) fun a470 => addF [a469.1, a470.1]) fun a472 => mulF [a471.1, a472.1]) fun a474 => addF [a473.1, a474.1]) Γ fun a459 => some (.next (setV [2, 3, 1] 2 a459 Γ))) fun Γ => some (.next Γ)) else (bindO (bindE (bindR (bindR (some (.ok (.int 1, 2))) fun a480 => bindR (bindR (bindR (getV 3 Γ) fun a476 => bindR (some (.ok (.int 3, 2))) fun a477 => divF [a476.1, a477.1]) fun a478 => bindR (some (.ok (.int 5, 2))) fun a479 => modF [a478.1, a479.1]) fun a481 => addF [a480.1, a481.1]) fun a494 => bindR (bindR (bindR (bindR (bindR (getV 3 Γ) fun a482 => bindR (some (.ok (.int 45, 2))) fun a483 => divF [a482.1, a483.1]) fun a484 => bindR (some (.ok (.int 8, 2))) fun a485 => modF [a484.1, a485.1]) fun a486 => bindR (some (.ok (.int 7, 2))) fun a487 => divF [a486.1, a487.1]) fun a492 => bindR (bindR (bindR (getV 3 Γ) fun a488 => bindR (some (.ok (.int 360, 2))) fun a489 => divF [a488.1, a489.1]) fun a490 => bindR (some (.ok (.int 36, 2))) fun a491 => modF [a490.1, a491.1]) fun a493 => mulF [a492.1, a493.1]) fun a495 => addF [a494.1, a495.1]) Γ fun a475 => some (.next (setV [3, 3, 3] 4 a475 Γ))) fun Γ => bindO (bindE (bindR (getV 2 Γ) fun a514 => bindR (bindR (some (.ok (.str [], 2))) fun a513 => methF joinF a513.1 (bindR (bindR (bindR (bindR (getV 4 Γ) fun a497 => bindR (some (.ok [])) fun a498 => some (.ok (a497.1 :: a498))) rngF) (compF e__law_text_by_1 (fun _ => some (.ok true)) [3] Γ)) fun a511 => bindR (some (.ok [])) fun a512 => some (.ok (a511.1 :: a512)))) fun a515 => addF [a514.1, a515.1]) Γ fun a496 => some (.next (setV [2, 3] 2 a496 Γ))) fun Γ => some (.next Γ))) fun Γ => some (.next Γ))) fun Γ => some (.next Γ)
noncomputable def s__law_text_by_2 : G → Option O := fun Γ => forF [0] 3 (fun Γ => bindR (getV 0 Γ) itF) b__law_text_by_1 Γ
noncomputable def s__law_text_by_3 : G → Option O := fun Γ => retV 2 Γ
noncomputable def f__law_text_by : G → Option O := fun Γ => bindO (s__law_text_by_1 Γ) fun Γ => bindO (s__law_text_by_2 Γ) fun Γ => bindO (s__law_text_by_3 Γ) fun Γ => some (.next Γ)
noncomputable def F__law_text_by : List D → Option (R (D × Nat)) := fnF 2 3 f__law_text_by
theorem den__law_text_by {c : Cx} (ok : c.Ok) (B : Bi c) (h__law_sign_by : Fn c false 1 "_law_sign_by" F__law_sign_by) : DenSs c false 1 (recAt PySem.Challenge.pw_uf040006_13 36).scope ["_law_cells", "_law_flowing", "_law_signs", "_law_cell", "_law_size_here"] (recAt PySem.Challenge.pw_uf040006_13 36).body f__law_text_by :=
  denSs_cons (denS_assign 2 (den_strL)) (denSs_cons (denS_for 3 (den_it (den_var 0)) (denSs_cons (denS_if (denB_cmp op_eq (den_bin op_mod (den_var 3) (den_int)) (den_int)) (denSs_cons (denS_assign 2 (den_bin op_add (den_var 2) (den_bin op_mul (den_strL) (den_bin op_add (den_int) (den_bin op_mod (den_bin op_div (den_var 3) (den_int)) (den_int)))))) (denSs_nil)) (denSs_cons (denS_if (denB_cmp op_eq (den_bin op_mod (den_var 3) (den_int)) (den_int)) (denSs_cons (denS_assign 2 (den_bin op_add (den_var 2) (den_bin op_mul (den_strL) (den_bin op_add (den_int) (den_bin op_mul (den_bin op_mod (den_bin op_div (den_var 3) (den_int)) (den_int)) (den_ty ok B.int_ op_int (denA_cons (den_un op_not (den_var 1)) (denA_nil)))))))) (denSs_nil)) (denSs_cons (denS_assign 4 (den_bin op_add (den_bin op_add (den_int) (den_bin op_mod (den_bin op_div (den_var 3) (den_int)) (den_int))) (den_bin op_mul (den_bin op_div (den_bin op_mod (den_bin op_div (den_var 3) (den_int)) (den_int)) (den_int)) (den_bin op_mod (den_bin op_div (den_var 3) (den_int)) (den_int))))) (denSs_cons (denS_assign 2 (den_bin op_add (den_var 2) (den_join (den_strL) (denA_cons (den_comp [3] (den_range ok B.range_ (denA_cons (den_var 4) (denA_nil))) denT_nil (den_call ok h__law_sign_by (denA_cons (den_bin op_add (den_bin op_div (den_var 1) (den_int)) (den_bin op_mul (den_var 0) (den_bin op_mod (den_bin op_div (den_var 1) (den_int)) (den_int)))) (denA_nil)))) (denA_nil))))) (denSs_nil)))) (denSs_nil))) (denSs_nil))) (denSs_cons (denS_retvar 2) (denSs_nil)))
theorem bind__law_text_by : ∀ pm code doc (vals : List Value), vals.length = (["_law_cells", "_law_flowing"] : List Str).length → bindArgs (Calls.docDef (recAt PySem.Challenge.pw_uf040006_13 36).name (recAt PySem.Challenge.pw_uf040006_13 36).params (recAt PySem.Challenge.pw_uf040006_13 36).body (recAt PySem.Challenge.pw_uf040006_13 36).scope pm code doc) ⟨vals, []⟩ = pure ((["_law_cells", "_law_flowing"] : List Str).zip vals) := by
  intro pm code doc vals h
  obtain ⟨v0, v1, rfl⟩ := len2 h
  rfl
theorem fn__law_text_by {c : Cx} (ok : c.Ok) (B : Bi c) (h__law_sign_by : Fn c false 1 "_law_sign_by" F__law_sign_by) (hf : FnRec c (recAt PySem.Challenge.pw_uf040006_13 36)) : Fn c false 2 "_law_text_by" F__law_text_by :=
  fn_of (ps := ["_law_cells", "_law_flowing"]) 3 ok hf (den__law_text_by ok B h__law_sign_by) bind__law_text_by
noncomputable def s__law_parts_1 : G → Option O := fun Γ => bindE (bindR (some (.ok [])) listF) Γ fun a518 => some (.next (setV [] 1 a518 Γ))
noncomputable def s__law_parts_2 : G → Option O := fun Γ => bindE (some (.ok (.str [], 2))) Γ fun a519 => some (.next (setV [] 2 a519 Γ))
noncomputable def s__law_parts_3 : G → Option O := fun Γ => bindE (bindR (bindR (some (.ok (.str [], 2))) fun a523 => bindR (bindR (some (.ok (.str [], 2))) fun a521 => bindR (some (.ok [])) fun a522 => some (.ok (a521.1 :: a522))) fun a524 => some (.ok (a523.1 :: a524))) listF) Γ fun a520 => some (.next (setV [] 3 a520 Γ))
noncomputable def a__law_parts_1 : G → Option (R (D × Nat)) := fun Γ => bindR (some (.ok [])) listF
noncomputable def a__law_parts_2 : G → Option (R (D × Nat)) := fun Γ => some (.ok (.str [114, 111, 119], 2))
noncomputable def a__law_parts_3 : G → Option (R (D × Nat)) := fun Γ => some (.ok (.int 1, 2))
noncomputable def a__law_parts_4 : G → Option (R (D × Nat)) := fun Γ => some (.ok (.str [119, 111, 114, 100], 2))
noncomputable def a__law_parts_5 : G → Option (R (D × Nat)) := fun Γ => some (.ok (.int 0, 2))
noncomputable def a__law_parts_6 : G → Option (R (D × Nat)) := fun Γ => bindR (some (.ok (.int 1, 2))) fun a552 => negF [a552.1]
noncomputable def a__law_parts_7 : G → Option (R (D × Nat)) := fun Γ => some (.ok (.str [], 2))
noncomputable def a__law_parts_8 : G → Option (R (D × Nat)) := fun Γ => some (.ok (.int 1, 2))
noncomputable def a__law_parts_9 : G → Option (R (D × Nat)) := fun Γ => some (.ok (.str [], 2))
noncomputable def a__law_parts_10 : G → Option (R (D × Nat)) := fun Γ => some (.ok (.int 0, 2))
noncomputable def b__law_parts_1 : G → Option O := fun Γ => bindO (bindE (bindR (bindR (getV 4 Γ) fun a527 => bindR (some (.ok (.str [32], 2))) fun a528 => bindR (neF [a527.1, a528.1]) fun a529 => (truthD a529.1).map .ok) fun a534 => if a534 then (bindR (bindR (getV 4 Γ) fun a530 => bindR (some (.ok (.str [10], 2))) fun a531 => bindR (neF [a530.1, a531.1]) fun a532 => (truthD a532.1).map .ok) fun a533 => if a533 then (some (.ok true)) else some (.ok false)) else some (.ok false)) Γ fun a555 => if a555 then (bindO (bindE (bindR (bindR (getV 2 Γ) fun a535 => bindR (some (.ok (.str [], 2))) fun a536 => bindR (eqF [a535.1, a536.1]) fun a537 => (truthD a537.1).map .ok) fun a544 => if a544 then (bindR (bindR (bindR (getV 3 Γ) fun a538 => bindR (some (.ok (.int 1, 2))) fun a539 => itemF [a538.1, a539.1]) fun a540 => bindR (some (.ok (.str [114, 111, 119], 2))) fun a541 => bindR (neF [a540.1, a541.1]) fun a542 => (truthD a542.1).map .ok) fun a543 => if a543 then (some (.ok true)) else some (.ok false)) else some (.ok false)) Γ fun a545 => if a545 then (bindO (appF [] 1 a__law_parts_1 Γ) fun Γ => some (.next Γ)) else (some (.next Γ))) fun Γ => bindO (bindE (bindR (getV 2 Γ) fun a547 => bindR (getV 4 Γ) fun a548 => addF [a547.1, a548.1]) Γ fun a546 => some (.next (setV [2, 4] 2 a546 Γ))) fun Γ => bindO (setF [] 3 a__law_parts_2 a__law_parts_3 Γ) fun Γ => bindO (setF [] 3 a__law_parts_4 a__law_parts_5 Γ) fun Γ => some (.next Γ)) else (bindO (bindE (bindR (getV 2 Γ) fun a549 => bindR (some (.ok (.str [], 2))) fun a550 => bindR (neF [a549.1, a550.1]) fun a551 => (truthD a551.1).map .ok) Γ fun a554 => if a554 then (bindO (app2F 1 a__law_parts_6 (fun Γ => getV 2 Γ) Γ) fun Γ => bindO (bindE (some (.ok (.str [], 2))) Γ fun a553 => some (.next (setV [] 2 a553 Γ))) fun Γ => some (.next Γ)) else (some (.next Γ))) fun Γ => some (.next Γ))) fun Γ => bindO (bindE (bindR (getV 4 Γ) fun a556 => bindR (some (.ok (.str [10], 2))) fun a557 => bindR (eqF [a556.1, a557.1]) fun a558 => (truthD a558.1).map .ok) Γ fun a565 => if a565 then (bindO (bindE (bindR (bindR (getV 3 Γ) fun a559 => bindR (some (.ok (.int 0, 2))) fun a560 => itemF [a559.1, a560.1]) fun a561 => bindR (some (.ok (.str [119, 111, 114, 100], 2))) fun a562 => bindR (neF [a561.1, a562.1]) fun a563 => (truthD a563.1).map .ok) Γ fun a564 => if a564 then (bindO (setF [] 3 a__law_parts_7 a__law_parts_8 Γ) fun Γ => some (.next Γ)) else (some (.next Γ))) fun Γ => bindO (setF [] 3 a__law_parts_9 a__law_parts_10 Γ) fun Γ => some (.next Γ)) else (some (.next Γ))) fun Γ => some (.next Γ)
noncomputable def s__law_parts_4 : G → Option O := fun Γ => forF [] 4 (fun Γ => bindR (bindR (getV 0 Γ) fun a525 => bindR (some (.ok (.str [10], 2))) fun a526 => addF [a525.1, a526.1]) itS) b__law_parts_1 Γ
noncomputable def s__law_parts_5 : G → Option O := fun Γ => retV 1 Γ
noncomputable def f__law_parts : G → Option O := fun Γ => bindO (s__law_parts_1 Γ) fun Γ => bindO (s__law_parts_2 Γ) fun Γ => bindO (s__law_parts_3 Γ) fun Γ => bindO (s__law_parts_4 Γ) fun Γ => bindO (s__law_parts_5 Γ) fun Γ => some (.next Γ)
noncomputable def F__law_parts : List D → Option (R (D × Nat)) := fnF 1 4 f__law_parts
theorem den__law_parts {c : Cx} (ok : c.Ok) (B : Bi c)  : DenSs c false 0 (recAt PySem.Challenge.pw_uf040006_13 37).scope ["_law_signs", "_law_parts_here", "_law_held", "_law_last", "_law_sign"] (recAt PySem.Challenge.pw_uf040006_13 37).body f__law_parts :=
  denSs_cons (denS_assign 1 (den_list (denA_nil))) (denSs_cons (denS_assign 2 (den_strL)) (denSs_cons (denS_assign 3 (den_list (denA_cons (den_strL) (denA_cons (den_strL) (denA_nil))))) (denSs_cons (denS_for 4 (den_its (den_bin op_add (den_var 0) (den_strL))) (denSs_cons (denS_if (denB_bool (denL_and (denB_cmp op_ne (den_var 4) (den_strL)) (denL_and (denB_cmp op_ne (den_var 4) (den_strL)) (denL_and_nil)))) (denSs_cons (denS_if (denB_bool (denL_and (denB_cmp op_eq (den_var 2) (den_strL)) (denL_and (denB_cmp op_ne (den_idx (den_var 3) (den_int)) (den_strL)) (denL_and_nil)))) (denSs_cons (denS_append 1 (den_list (denA_nil))) (denSs_nil)) (denSs_nil)) (denSs_cons (denS_assign 2 (den_bin op_add (den_var 2) (den_var 4))) (denSs_cons (denS_setitem 3 (den_strL) (den_int)) (denSs_cons (denS_setitem 3 (den_strL) (den_int)) (denSs_nil))))) (denSs_cons (denS_if (denB_cmp op_ne (den_var 2) (den_strL)) (denSs_cons (denS_append2 1 (den_un op_neg (den_int)) (den_var 2)) (denSs_cons (denS_assign 2 (den_strL)) (denSs_nil))) (denSs_nil)) (denSs_nil))) (denSs_cons (denS_if (denB_cmp op_eq (den_var 4) (den_strL)) (denSs_cons (denS_if (denB_cmp op_ne (den_idx (den_var 3) (den_int)) (den_strL)) (denSs_cons (denS_setitem 3 (den_strL) (den_int)) (denSs_nil)) (denSs_nil)) (denSs_cons (denS_setitem 3 (den_strL) (den_int)) (denSs_nil))) (denSs_nil)) (denSs_nil)))) (denSs_cons (denS_retvar 1) (denSs_nil)))))
theorem bind__law_parts : ∀ pm code doc (vals : List Value), vals.length = (["_law_signs"] : List Str).length → bindArgs (Calls.docDef (recAt PySem.Challenge.pw_uf040006_13 37).name (recAt PySem.Challenge.pw_uf040006_13 37).params (recAt PySem.Challenge.pw_uf040006_13 37).body (recAt PySem.Challenge.pw_uf040006_13 37).scope pm code doc) ⟨vals, []⟩ = pure ((["_law_signs"] : List Str).zip vals) := by
  intro pm code doc vals h
  obtain ⟨v0, rfl⟩ := len1 h
  rfl
theorem fn__law_parts {c : Cx} (ok : c.Ok) (B : Bi c)  (hf : FnRec c (recAt PySem.Challenge.pw_uf040006_13 37)) : Fn c false 1 "_law_parts" F__law_parts :=
  fn_of (ps := ["_law_signs"]) 4 ok hf (den__law_parts ok B ) bind__law_parts
noncomputable def s__law_whole_1 : G → Option O := fun Γ => bindE (bindR (bindR (getV 0 Γ) (isiF "int")) fun a567 => andF a567 (bindR (bindR (getV 0 Γ) (isiF "bool")) fun a566 => notF [a566.1])) Γ fun a568 => some (.ret a568.1 a568.2)
noncomputable def f__law_whole : G → Option O := fun Γ => bindO (s__law_whole_1 Γ) fun Γ => some (.next Γ)
noncomputable def F__law_whole : List D → Option (R (D × Nat)) := fnF 1 0 f__law_whole
theorem den__law_whole {c : Cx} (ok : c.Ok) (B : Bi c)  : DenSs c false 0 (recAt PySem.Challenge.pw_uf040006_13 38).scope ["_law_found"] (recAt PySem.Challenge.pw_uf040006_13 38).body f__law_whole :=
  denSs_cons (denS_return (den_and (den_isi ok B.isinstance B.int_ (den_var 0)) (den_one (den_un op_not (den_isi ok B.isinstance B.bool_ (den_var 0)))))) (denSs_nil)
theorem bind__law_whole : ∀ pm code doc (vals : List Value), vals.length = (["_law_found"] : List Str).length → bindArgs (Calls.docDef (recAt PySem.Challenge.pw_uf040006_13 38).name (recAt PySem.Challenge.pw_uf040006_13 38).params (recAt PySem.Challenge.pw_uf040006_13 38).body (recAt PySem.Challenge.pw_uf040006_13 38).scope pm code doc) ⟨vals, []⟩ = pure ((["_law_found"] : List Str).zip vals) := by
  intro pm code doc vals h
  obtain ⟨v0, rfl⟩ := len1 h
  rfl
theorem fn__law_whole {c : Cx} (ok : c.Ok) (B : Bi c)  (hf : FnRec c (recAt PySem.Challenge.pw_uf040006_13 38)) : Fn c false 1 "_law_whole" F__law_whole :=
  fn_of (ps := ["_law_found"]) 0 ok hf (den__law_whole ok B ) bind__law_whole
noncomputable def s__law_wholes_1 : G → Option O := fun Γ => bindE (bindR (bindR (bindR (getV 0 Γ) (isiF "list")) fun a569 => (truthD a569.1).map .ok) fun a570 => some (.ok (!a570))) Γ fun a572 => if a572 then (bindO (bindE (some (.ok (.bool false, 2))) Γ fun a571 => some (.ret a571.1 a571.2)) fun Γ => some (.next Γ)) else (some (.next Γ))
noncomputable def b__law_wholes_1 : G → Option O := fun Γ => bindO (bindE (bindR (bindR (bindR (bindR (getV 1 Γ) fun a573 => bindR (some (.ok [])) fun a574 => some (.ok (a573.1 :: a574))) F__law_whole) fun a575 => (truthD a575.1).map .ok) fun a576 => some (.ok (!a576))) Γ fun a578 => if a578 then (bindO (bindE (some (.ok (.bool false, 2))) Γ fun a577 => some (.ret a577.1 a577.2)) fun Γ => some (.next Γ)) else (some (.next Γ))) fun Γ => some (.next Γ)
noncomputable def s__law_wholes_2 : G → Option O := fun Γ => forF [0] 1 (fun Γ => bindR (getV 0 Γ) itF) b__law_wholes_1 Γ
noncomputable def s__law_wholes_3 : G → Option O := fun Γ => bindE (some (.ok (.bool true, 2))) Γ fun a579 => some (.ret a579.1 a579.2)
noncomputable def f__law_wholes : G → Option O := fun Γ => bindO (s__law_wholes_1 Γ) fun Γ => bindO (s__law_wholes_2 Γ) fun Γ => bindO (s__law_wholes_3 Γ) fun Γ => some (.next Γ)
noncomputable def F__law_wholes : List D → Option (R (D × Nat)) := fnF 1 1 f__law_wholes
theorem den__law_wholes {c : Cx} (ok : c.Ok) (B : Bi c) (h__law_whole : Fn c false 1 "_law_whole" F__law_whole) : DenSs c false 1 (recAt PySem.Challenge.pw_uf040006_13 39).scope ["_law_found", "_law_one"] (recAt PySem.Challenge.pw_uf040006_13 39).body f__law_wholes :=
  denSs_cons (denS_if (denB_not (denB_val (den_isi ok B.isinstance B.list_ (den_var 0)))) (denSs_cons (denS_return (den_bool)) (denSs_nil)) (denSs_nil)) (denSs_cons (denS_for 1 (den_it (den_var 0)) (denSs_cons (denS_if (denB_not (denB_val (den_call ok h__law_whole (denA_cons (den_var 1) (denA_nil))))) (denSs_cons (denS_return (den_bool)) (denSs_nil)) (denSs_nil)) (denSs_nil))) (denSs_cons (denS_return (den_bool)) (denSs_nil)))
theorem bind__law_wholes : ∀ pm code doc (vals : List Value), vals.length = (["_law_found"] : List Str).length → bindArgs (Calls.docDef (recAt PySem.Challenge.pw_uf040006_13 39).name (recAt PySem.Challenge.pw_uf040006_13 39).params (recAt PySem.Challenge.pw_uf040006_13 39).body (recAt PySem.Challenge.pw_uf040006_13 39).scope pm code doc) ⟨vals, []⟩ = pure ((["_law_found"] : List Str).zip vals) := by
  intro pm code doc vals h
  obtain ⟨v0, rfl⟩ := len1 h
  rfl
theorem fn__law_wholes {c : Cx} (ok : c.Ok) (B : Bi c) (h__law_whole : Fn c false 1 "_law_whole" F__law_whole) (hf : FnRec c (recAt PySem.Challenge.pw_uf040006_13 39)) : Fn c false 2 "_law_wholes" F__law_wholes :=
  fn_of (ps := ["_law_found"]) 1 ok hf (den__law_wholes ok B h__law_whole) bind__law_wholes
noncomputable def s__law_size_1 : G → Option O := fun Γ => bindE (bindR (bindR (bindR (some (.ok (.str [32], 2))) fun a585 => methF joinF a585.1 (bindR (bindR (getV 0 Γ) fun a580 => bindR (bindR (getV 1 Γ) asIntR) fun a581 => bindR (bindR (getV 2 Γ) asIntR) fun a582 => sliceF a581 a582 a580.1) fun a583 => bindR (some (.ok [])) fun a584 => some (.ok (a583.1 :: a584)))) fun a586 => bindR (some (.ok [])) fun a587 => some (.ok (a586.1 :: a587))) lenF) Γ fun a588 => some (.ret a588.1 a588.2)
noncomputable def f__law_size : G → Option O := fun Γ => bindO (s__law_size_1 Γ) fun Γ => some (.next Γ)
noncomputable def F__law_size : List D → Option (R (D × Nat)) := fnF 3 0 f__law_size
theorem den__law_size {c : Cx} (ok : c.Ok) (B : Bi c)  : DenSs c false 0 (recAt PySem.Challenge.pw_uf040006_13 40).scope ["_law_row", "_law_begin", "_law_end"] (recAt PySem.Challenge.pw_uf040006_13 40).body f__law_size :=
  denSs_cons (denS_return (den_bi ok B.len op_len (denA_cons (den_join (den_strL) (denA_cons (den_slice (den_var 0) (denO_some (den_var 1)) (denO_some (den_var 2))) (denA_nil))) (denA_nil)))) (denSs_nil)
theorem bind__law_size : ∀ pm code doc (vals : List Value), vals.length = (["_law_row", "_law_begin", "_law_end"] : List Str).length → bindArgs (Calls.docDef (recAt PySem.Challenge.pw_uf040006_13 40).name (recAt PySem.Challenge.pw_uf040006_13 40).params (recAt PySem.Challenge.pw_uf040006_13 40).body (recAt PySem.Challenge.pw_uf040006_13 40).scope pm code doc) ⟨vals, []⟩ = pure ((["_law_row", "_law_begin", "_law_end"] : List Str).zip vals) := by
  intro pm code doc vals h
  obtain ⟨v0, v1, v2, rfl⟩ := len3 h
  rfl
theorem fn__law_size {c : Cx} (ok : c.Ok) (B : Bi c)  (hf : FnRec c (recAt PySem.Challenge.pw_uf040006_13 40)) : Fn c false 1 "_law_size" F__law_size :=
  fn_of (ps := ["_law_row", "_law_begin", "_law_end"]) 0 ok hf (den__law_size ok B ) bind__law_size
noncomputable def s__law_are_starts_1 : G → Option O := fun Γ => bindE (bindR (bindR (bindR (bindR (getV 2 Γ) fun a589 => bindR (some (.ok [])) fun a590 => some (.ok (a589.1 :: a590))) F__law_wholes) fun a591 => (truthD a591.1).map .ok) fun a592 => some (.ok (!a592))) Γ fun a594 => if a594 then (bindO (bindE (some (.ok (.bool false, 2))) Γ fun a593 => some (.ret a593.1 a593.2)) fun Γ => some (.next Γ)) else (some (.next Γ))
noncomputable def s__law_are_starts_2 : G → Option O := fun Γ => bindE (bindR (bindR (getV 2 Γ) fun a596 => bindR (bindR (some (.ok (.int 1, 2))) asIntR) fun a597 => bindR (some (.ok none)) fun a598 => sliceF a597 a598 a596.1) fun a603 => bindR (bindR (bindR (bindR (bindR (getV 0 Γ) fun a599 => bindR (some (.ok [])) fun a600 => some (.ok (a599.1 :: a600))) lenF) fun a601 => bindR (some (.ok [])) fun a602 => some (.ok (a601.1 :: a602))) listF) fun a604 => addF [a603.1, a604.1]) Γ fun a595 => some (.next (setV [2, 0] 3 a595 Γ))
noncomputable def s__law_are_starts_3 : G → Option O := fun Γ => bindE (bindR (getV 2 Γ) fun a605 => bindR (bindR (some (.ok [])) listF) fun a606 => bindR (eqF [a605.1, a606.1]) fun a607 => (truthD a607.1).map .ok) Γ fun a611 => if a611 then (bindO (bindE (bindR (getV 0 Γ) fun a608 => bindR (bindR (some (.ok [])) listF) fun a609 => eqF [a608.1, a609.1]) Γ fun a610 => some (.ret a610.1 a610.2)) fun Γ => some (.next Γ)) else (some (.next Γ))
noncomputable def s__law_are_starts_4 : G → Option O := fun Γ => bindE (bindR (bindR (getV 2 Γ) fun a612 => bindR (some (.ok (.int 0, 2))) fun a613 => itemF [a612.1, a613.1]) fun a614 => bindR (some (.ok (.int 0, 2))) fun a615 => bindR (neF [a614.1, a615.1]) fun a616 => (truthD a616.1).map .ok) Γ fun a618 => if a618 then (bindO (bindE (some (.ok (.bool false, 2))) Γ fun a617 => some (.ret a617.1 a617.2)) fun Γ => some (.next Γ)) else (some (.next Γ))
noncomputable def b__law_are_starts_1 : G → Option O := fun Γ => bindO (bindE (bindR (bindR (bindR (bindR (getV 2 Γ) fun a623 => bindR (getV 4 Γ) fun a624 => itemF [a623.1, a624.1]) fun a627 => bindR (bindR (getV 3 Γ) fun a625 => bindR (getV 4 Γ) fun a626 => itemF [a625.1, a626.1]) fun a628 => bindR (ltF [a627.1, a628.1]) fun a629 => (truthD a629.1).map .ok) fun a630 => some (.ok (!a630))) fun a645 => if a645 then some (.ok true) else (bindR (bindR (bindR (bindR (getV 0 Γ) fun a639 => bindR (bindR (bindR (getV 2 Γ) fun a631 => bindR (getV 4 Γ) fun a632 => itemF [a631.1, a632.1]) fun a637 => bindR (bindR (bindR (getV 3 Γ) fun a633 => bindR (getV 4 Γ) fun a634 => itemF [a633.1, a634.1]) fun a635 => bindR (some (.ok [])) fun a636 => some (.ok (a635.1 :: a636))) fun a638 => some (.ok (a637.1 :: a638))) fun a640 => some (.ok (a639.1 :: a640))) F__law_size) fun a641 => bindR (getV 1 Γ) fun a642 => bindR (gtF [a641.1, a642.1]) fun a643 => (truthD a643.1).map .ok) fun a644 => if a644 then some (.ok true) else (some (.ok false)))) Γ fun a647 => if a647 then (bindO (bindE (some (.ok (.bool false, 2))) Γ fun a646 => some (.ret a646.1 a646.2)) fun Γ => some (.next Γ)) else (some (.next Γ))) fun Γ => some (.next Γ)
noncomputable def s__law_are_starts_5 : G → Option O := fun Γ => forF [] 4 (fun Γ => bindR (bindR (bindR (bindR (getV 2 Γ) fun a619 => bindR (some (.ok [])) fun a620 => some (.ok (a619.1 :: a620))) lenF) fun a621 => bindR (some (.ok [])) fun a622 => some (.ok (a621.1 :: a622))) rngF) b__law_are_starts_1 Γ
noncomputable def s__law_are_starts_6 : G → Option O := fun Γ => bindE (some (.ok (.bool true, 2))) Γ fun a648 => some (.ret a648.1 a648.2)
noncomputable def f__law_are_starts : G → Option O := fun Γ => bindO (s__law_are_starts_1 Γ) fun Γ => bindO (s__law_are_starts_2 Γ) fun Γ => bindO (s__law_are_starts_3 Γ) fun Γ => bindO (s__law_are_starts_4 Γ) fun Γ => bindO (s__law_are_starts_5 Γ) fun Γ => bindO (s__law_are_starts_6 Γ) fun Γ => some (.next Γ)
noncomputable def F__law_are_starts : List D → Option (R (D × Nat)) := fnF 3 2 f__law_are_starts
theorem den__law_are_starts {c : Cx} (ok : c.Ok) (B : Bi c) (h__law_size : Fn c false 2 "_law_size" F__law_size) (h__law_wholes : Fn c false 2 "_law_wholes" F__law_wholes) : DenSs c false 2 (recAt PySem.Challenge.pw_uf040006_13 41).scope ["_law_row", "_law_width", "_law_found", "_law_ends", "_law_k"] (recAt PySem.Challenge.pw_uf040006_13 41).body f__law_are_starts :=
  denSs_cons (denS_if (denB_not (denB_val (den_call ok h__law_wholes (denA_cons (den_var 2) (denA_nil))))) (denSs_cons (denS_return (den_bool)) (denSs_nil)) (denSs_nil)) (denSs_cons (denS_assign 3 (den_bin op_add (den_slice (den_var 2) (denO_some (den_int)) denO_none) (den_list (denA_cons (den_bi ok B.len op_len (denA_cons (den_var 0) (denA_nil))) (denA_nil))))) (denSs_cons (denS_if (denB_cmp op_eq (den_var 2) (den_list (denA_nil))) (denSs_cons (denS_return (den_cmp op_eq (den_var 0) (den_list (denA_nil)))) (denSs_nil)) (denSs_nil)) (denSs_cons (denS_if (denB_cmp op_ne (den_idx (den_var 2) (den_int)) (den_int)) (denSs_cons (denS_return (den_bool)) (denSs_nil)) (denSs_nil)) (denSs_cons (denS_for 4 (den_range ok B.range_ (denA_cons (den_bi ok B.len op_len (denA_cons (den_var 2) (denA_nil))) (denA_nil))) (denSs_cons (denS_if (denB_bool (denL_or (denB_not (denB_cmp op_lt (den_idx (den_var 2) (den_var 4)) (den_idx (den_var 3) (den_var 4)))) (denL_or (denB_cmp op_gt (den_call ok h__law_size (denA_cons (den_var 0) (denA_cons (den_idx (den_var 2) (den_var 4)) (denA_cons (den_idx (den_var 3) (den_var 4)) (denA_nil))))) (den_var 1)) (denL_or_nil)))) (denSs_cons (denS_return (den_bool)) (denSs_nil)) (denSs_nil)) (denSs_nil))) (denSs_cons (denS_return (den_bool)) (denSs_nil))))))
theorem bind__law_are_starts : ∀ pm code doc (vals : List Value), vals.length = (["_law_row", "_law_width", "_law_found"] : List Str).length → bindArgs (Calls.docDef (recAt PySem.Challenge.pw_uf040006_13 41).name (recAt PySem.Challenge.pw_uf040006_13 41).params (recAt PySem.Challenge.pw_uf040006_13 41).body (recAt PySem.Challenge.pw_uf040006_13 41).scope pm code doc) ⟨vals, []⟩ = pure ((["_law_row", "_law_width", "_law_found"] : List Str).zip vals) := by
  intro pm code doc vals h
  obtain ⟨v0, v1, v2, rfl⟩ := len3 h
  rfl
theorem fn__law_are_starts {c : Cx} (ok : c.Ok) (B : Bi c) (h__law_size : Fn c false 2 "_law_size" F__law_size) (h__law_wholes : Fn c false 2 "_law_wholes" F__law_wholes) (hf : FnRec c (recAt PySem.Challenge.pw_uf040006_13 41)) : Fn c false 3 "_law_are_starts" F__law_are_starts :=
  fn_of (ps := ["_law_row", "_law_width", "_law_found"]) 2 ok hf (den__law_are_starts ok B h__law_size h__law_wholes) bind__law_are_starts
noncomputable def e__law_spread_1 : G → Option (R (D × Nat)) := fun Γ => bindR (bindR (getV 0 Γ) fun a650 => bindR (some (.ok [])) fun a651 => some (.ok (a650.1 :: a651))) lenF
noncomputable def s__law_spread_1 : G → Option O := fun Γ => bindE (bindR (getV 1 Γ) fun a654 => bindR (bindR (bindR (bindR (bindR (getV 0 Γ) itF) (compF e__law_spread_1 (fun _ => some (.ok true)) [] Γ)) fun a652 => bindR (some (.ok [])) fun a653 => some (.ok (a652.1 :: a653))) sumF) fun a655 => subF [a654.1, a655.1]) Γ fun a649 => some (.next (setV [1, 0] 2 a649 Γ))
noncomputable def s__law_spread_2 : G → Option O := fun Γ => bindE (some (.ok (.str [], 2))) Γ fun a656 => some (.next (setV [] 3 a656 Γ))
noncomputable def b__law_spread_1 : G → Option O := fun Γ => bindO (bindE (bindR (getV 3 Γ) fun a664 => bindR (bindR (getV 0 Γ) fun a662 => bindR (getV 4 Γ) fun a663 => itemF [a662.1, a663.1]) fun a665 => addF [a664.1, a665.1]) Γ fun a661 => some (.next (setV [3, 0, 4] 3 a661 Γ))) fun Γ => bindO (bindE (bindR (bindR (getV 4 Γ) fun a666 => bindR (some (.ok (.int 1, 2))) fun a667 => addF [a666.1, a667.1]) fun a670 => bindR (bindR (bindR (getV 0 Γ) fun a668 => bindR (some (.ok [])) fun a669 => some (.ok (a668.1 :: a669))) lenF) fun a671 => bindR (ltF [a670.1, a671.1]) fun a672 => (truthD a672.1).map .ok) Γ fun a692 => if a692 then (bindO (bindE (bindR (getV 3 Γ) fun a690 => bindR (bindR (some (.ok (.str [32], 2))) fun a688 => bindR (bindR (bindR (bindR (bindR (getV 2 Γ) fun a674 => bindR (getV 4 Γ) fun a675 => subF [a674.1, a675.1]) fun a678 => bindR (bindR (bindR (getV 0 Γ) fun a676 => bindR (some (.ok [])) fun a677 => some (.ok (a676.1 :: a677))) lenF) fun a679 => addF [a678.1, a679.1]) fun a680 => bindR (some (.ok (.int 2, 2))) fun a681 => subF [a680.1, a681.1]) fun a686 => bindR (bindR (bindR (bindR (getV 0 Γ) fun a682 => bindR (some (.ok [])) fun a683 => some (.ok (a682.1 :: a683))) lenF) fun a684 => bindR (some (.ok (.int 1, 2))) fun a685 => subF [a684.1, a685.1]) fun a687 => divF [a686.1, a687.1]) fun a689 => mulF [a688.1, a689.1]) fun a691 => addF [a690.1, a691.1]) Γ fun a673 => some (.next (setV [3, 2, 4, 0, 0] 3 a673 Γ))) fun Γ => some (.next Γ)) else (some (.next Γ))) fun Γ => some (.next Γ)
noncomputable def s__law_spread_3 : G → Option O := fun Γ => forF [] 4 (fun Γ => bindR (bindR (bindR (bindR (getV 0 Γ) fun a657 => bindR (some (.ok [])) fun a658 => some (.ok (a657.1 :: a658))) lenF) fun a659 => bindR (some (.ok [])) fun a660 => some (.ok (a659.1 :: a660))) rngF) b__law_spread_1 Γ
noncomputable def s__law_spread_4 : G → Option O := fun Γ => retV 3 Γ
noncomputable def f__law_spread : G → Option O := fun Γ => bindO (s__law_spread_1 Γ) fun Γ => bindO (s__law_spread_2 Γ) fun Γ => bindO (s__law_spread_3 Γ) fun Γ => bindO (s__law_spread_4 Γ) fun Γ => some (.next Γ)
noncomputable def F__law_spread : List D → Option (R (D × Nat)) := fnF 2 3 f__law_spread
theorem den__law_spread {c : Cx} (ok : c.Ok) (B : Bi c)  : DenSs c false 0 (recAt PySem.Challenge.pw_uf040006_13 42).scope ["_law_row", "_law_width", "_law_blanks", "_law_line", "_law_k"] (recAt PySem.Challenge.pw_uf040006_13 42).body f__law_spread :=
  denSs_cons (denS_assign 2 (den_bin op_sub (den_var 1) (den_bi ok B.sum op_sum (denA_cons (den_comp [] (den_it (den_var 0)) denT_nil (den_bi ok B.len op_len (denA_cons (den_var 0) (denA_nil)))) (denA_nil))))) (denSs_cons (denS_assign 3 (den_strL)) (denSs_cons (denS_for 4 (den_range ok B.range_ (denA_cons (den_bi ok B.len op_len (denA_cons (den_var 0) (denA_nil))) (denA_nil))) (denSs_cons (denS_assign 3 (den_bin op_add (den_var 3) (den_idx (den_var 0) (den_var 4)))) (denSs_cons (denS_if (denB_cmp op_lt (den_bin op_add (den_var 4) (den_int)) (den_bi ok B.len op_len (denA_cons (den_var 0) (denA_nil)))) (denSs_cons (denS_assign 3 (den_bin op_add (den_var 3) (den_bin op_mul (den_strL) (den_bin op_div (den_bin op_sub (den_bin op_add (den_bin op_sub (den_var 2) (den_var 4)) (den_bi ok B.len op_len (denA_cons (den_var 0) (denA_nil)))) (den_int)) (den_bin op_sub (den_bi ok B.len op_len (denA_cons (den_var 0) (denA_nil))) (den_int)))))) (denSs_nil)) (denSs_nil)) (denSs_nil)))) (denSs_cons (denS_retvar 3) (denSs_nil))))
theorem bind__law_spread : ∀ pm code doc (vals : List Value), vals.length = (["_law_row", "_law_width"] : List Str).length → bindArgs (Calls.docDef (recAt PySem.Challenge.pw_uf040006_13 42).name (recAt PySem.Challenge.pw_uf040006_13 42).params (recAt PySem.Challenge.pw_uf040006_13 42).body (recAt PySem.Challenge.pw_uf040006_13 42).scope pm code doc) ⟨vals, []⟩ = pure ((["_law_row", "_law_width"] : List Str).zip vals) := by
  intro pm code doc vals h
  obtain ⟨v0, v1, rfl⟩ := len2 h
  rfl
theorem fn__law_spread {c : Cx} (ok : c.Ok) (B : Bi c)  (hf : FnRec c (recAt PySem.Challenge.pw_uf040006_13 42)) : Fn c false 1 "_law_spread" F__law_spread :=
  fn_of (ps := ["_law_row", "_law_width"]) 3 ok hf (den__law_spread ok B ) bind__law_spread
noncomputable def s__law_kind_1 : G → Option O := fun Γ => bindE (bindR (bindR (bindR (getV 0 Γ) (isiXF "NoWidth")) fun a700 => bindR (bindR (bindR (getV 0 Γ) (isiXF "LongWord")) fun a698 => bindR (bindR (bindR (getV 0 Γ) (isiXF "NoStarts")) fun a696 => bindR (bindR (bindR (getV 0 Γ) (isiXF "TooWide")) fun a694 => bindR (some (.ok [])) fun a695 => some (.ok (a694.1 :: a695))) fun a697 => some (.ok (a696.1 :: a697))) fun a699 => some (.ok (a698.1 :: a699))) fun a701 => some (.ok (a700.1 :: a701))) listF) Γ fun a693 => some (.next (setV [] 1 a693 Γ))
noncomputable def s__law_kind_2 : G → Option O := fun Γ => bindE (bindR (getV 1 Γ) fun a711 => bindR (bindR (bindR (bindR (getV 0 Γ) (isiXF "TooFew")) fun a709 => bindR (bindR (bindR (getV 0 Γ) (isiXF "TooMany")) fun a707 => bindR (bindR (bindR (getV 0 Γ) (isiXF "NoPlace")) fun a705 => bindR (bindR (bindR (getV 0 Γ) (isiXF "NoWord")) fun a703 => bindR (some (.ok [])) fun a704 => some (.ok (a703.1 :: a704))) fun a706 => some (.ok (a705.1 :: a706))) fun a708 => some (.ok (a707.1 :: a708))) fun a710 => some (.ok (a709.1 :: a710))) listF) fun a712 => addF [a711.1, a712.1]) Γ fun a702 => some (.next (setV [1] 1 a702 Γ))
noncomputable def s__law_kind_3 : G → Option O := fun Γ => bindE (bindR (getV 1 Γ) fun a718 => bindR (bindR (bindR (bindR (getV 0 Γ) (isiXF "Full")) fun a716 => bindR (bindR (bindR (getV 0 Γ) (isiXF "NoWayBack")) fun a714 => bindR (some (.ok [])) fun a715 => some (.ok (a714.1 :: a715))) fun a717 => some (.ok (a716.1 :: a717))) listF) fun a719 => addF [a718.1, a719.1]) Γ fun a713 => some (.next (setV [1] 1 a713 Γ))
noncomputable def e__law_kind_1 : G → Option (R (D × Nat)) := fun Γ => bindR (bindR (some (.ok (.int 11, 2))) fun a722 => bindR (getV 0 Γ) fun a723 => addF [a722.1, a723.1]) fun a728 => bindR (bindR (bindR (bindR (getV 1 Γ) fun a724 => bindR (getV 0 Γ) fun a725 => itemF [a724.1, a725.1]) fun a726 => bindR (some (.ok [])) fun a727 => some (.ok (a726.1 :: a727))) intF) fun a729 => mulF [a728.1, a729.1]
noncomputable def s__law_kind_4 : G → Option O := fun Γ => bindE (bindR (bindR (bindR (bindR (bindR (some (.ok (.int 10, 2))) fun a720 => bindR (some (.ok [])) fun a721 => some (.ok (a720.1 :: a721))) rngF) (compF e__law_kind_1 (fun _ => some (.ok true)) [1] Γ)) fun a730 => bindR (some (.ok [])) fun a731 => some (.ok (a730.1 :: a731))) sumF) Γ fun a732 => some (.ret a732.1 a732.2)
noncomputable def f__law_kind : G → Option O := fun Γ => bindO (s__law_kind_1 Γ) fun Γ => bindO (s__law_kind_2 Γ) fun Γ => bindO (s__law_kind_3 Γ) fun Γ => bindO (s__law_kind_4 Γ) fun Γ => some (.next Γ)
noncomputable def F__law_kind : List D → Option (R (D × Nat)) := fnF 1 1 f__law_kind
theorem den__law_kind {c : Cx} {hm : Bool} (ok : c.Ok) (B : Bi c) (X : Xs c)  : DenSs c hm 0 (recAt PySem.Challenge.pw_uf040006_13 43).scope ["_law_e", "_law_flags"] (recAt PySem.Challenge.pw_uf040006_13 43).body f__law_kind :=
  denSs_cons (denS_assign 1 (den_list (denA_cons (den_isiX ok B.isinstance X (den_var 0)) (denA_cons (den_isiX ok B.isinstance X (den_var 0)) (denA_cons (den_isiX ok B.isinstance X (den_var 0)) (denA_cons (den_isiX ok B.isinstance X (den_var 0)) (denA_nil))))))) (denSs_cons (denS_assign 1 (den_bin op_add (den_var 1) (den_list (denA_cons (den_isiX ok B.isinstance X (den_var 0)) (denA_cons (den_isiX ok B.isinstance X (den_var 0)) (denA_cons (den_isiX ok B.isinstance X (den_var 0)) (denA_cons (den_isiX ok B.isinstance X (den_var 0)) (denA_nil)))))))) (denSs_cons (denS_assign 1 (den_bin op_add (den_var 1) (den_list (denA_cons (den_isiX ok B.isinstance X (den_var 0)) (denA_cons (den_isiX ok B.isinstance X (den_var 0)) (denA_nil)))))) (denSs_cons (denS_return (den_bi ok B.sum op_sum (denA_cons (den_comp [1] (den_range ok B.range_ (denA_cons (den_int) (denA_nil))) denT_nil (den_bin op_mul (den_bin op_add (den_int) (den_var 0)) (den_ty ok B.int_ op_int (denA_cons (den_idx (den_var 1) (den_var 0)) (denA_nil))))) (denA_nil)))) (denSs_nil))))
theorem bind__law_kind : ∀ pm code doc (vals : List Value), vals.length = (["_law_e"] : List Str).length → bindArgs (Calls.docDef (recAt PySem.Challenge.pw_uf040006_13 43).name (recAt PySem.Challenge.pw_uf040006_13 43).params (recAt PySem.Challenge.pw_uf040006_13 43).body (recAt PySem.Challenge.pw_uf040006_13 43).scope pm code doc) ⟨vals, []⟩ = pure ((["_law_e"] : List Str).zip vals) := by
  intro pm code doc vals h
  obtain ⟨v0, rfl⟩ := len1 h
  rfl
theorem fn__law_kind {c : Cx} {hm : Bool} (ok : c.Ok) (B : Bi c) (X : Xs c)  (hf : FnRec c (recAt PySem.Challenge.pw_uf040006_13 43)) : Fn c hm 1 "_law_kind" F__law_kind :=
  fn_of (ps := ["_law_e"]) 1 ok hf (den__law_kind ok B X ) bind__law_kind
noncomputable def s__law_refusal_1 : G → Option O := fun Γ => tryF "WrapError" 2 (fun Γ => bindO (bindE (bindR (bindR (getV 0 Γ) fun a735 => bindR (bindR (getV 1 Γ) fun a733 => bindR (some (.ok [])) fun a734 => some (.ok (a733.1 :: a734))) fun a736 => some (.ok (a735.1 :: a736))) F_squared) Γ fun _ => some (.next Γ)) fun Γ => some (.next Γ)) (fun Γ => bindO (bindE (bindR (bindR (getV 2 Γ) fun a737 => bindR (some (.ok [])) fun a738 => some (.ok (a737.1 :: a738))) F__law_kind) Γ fun a739 => some (.ret a739.1 a739.2)) fun Γ => some (.next Γ)) Γ
noncomputable def s__law_refusal_2 : G → Option O := fun Γ => bindE (some (.ok (.int 0, 2))) Γ fun a740 => some (.ret a740.1 a740.2)
noncomputable def f__law_refusal : G → Option O := fun Γ => bindO (s__law_refusal_1 Γ) fun Γ => bindO (s__law_refusal_2 Γ) fun Γ => some (.next Γ)
noncomputable def F__law_refusal : List D → Option (R (D × Nat)) := fnF 2 1 f__law_refusal
theorem den__law_refusal {c : Cx} (ok : c.Ok) (B : Bi c) (X : Xs c) (h_squared : Fn c false 7 "squared" F_squared) (k__law_kind : Fn c true 7 "_law_kind" F__law_kind) : DenSs c false 7 (recAt PySem.Challenge.pw_uf040006_13 44).scope ["_law_signs", "_law_width", "_law_e"] (recAt PySem.Challenge.pw_uf040006_13 44).body f__law_refusal :=
  denSs_cons (denS_try 2 ok X (denSs_cons (denS_expr (den_call ok h_squared (denA_cons (den_var 0) (denA_cons (den_var 1) (denA_nil))))) (denSs_nil)) (denSs_cons (denS_return (den_call ok k__law_kind (denA_cons (den_var 2) (denA_nil)))) (denSs_nil))) (denSs_cons (denS_return (den_int)) (denSs_nil))
theorem bind__law_refusal : ∀ pm code doc (vals : List Value), vals.length = (["_law_signs", "_law_width"] : List Str).length → bindArgs (Calls.docDef (recAt PySem.Challenge.pw_uf040006_13 44).name (recAt PySem.Challenge.pw_uf040006_13 44).params (recAt PySem.Challenge.pw_uf040006_13 44).body (recAt PySem.Challenge.pw_uf040006_13 44).scope pm code doc) ⟨vals, []⟩ = pure ((["_law_signs", "_law_width"] : List Str).zip vals) := by
  intro pm code doc vals h
  obtain ⟨v0, v1, rfl⟩ := len2 h
  rfl
theorem fn__law_refusal {c : Cx} (ok : c.Ok) (B : Bi c) (X : Xs c) (h_squared : Fn c false 7 "squared" F_squared) (k__law_kind : Fn c true 7 "_law_kind" F__law_kind) (hf : FnRec c (recAt PySem.Challenge.pw_uf040006_13 44)) : Fn c false 8 "_law_refusal" F__law_refusal :=
  fn_of (ps := ["_law_signs", "_law_width"]) 1 ok hf (den__law_refusal ok B X h_squared k__law_kind) bind__law_refusal
noncomputable def s__law_longest_1 : G → Option O := fun Γ => bindE (some (.ok (.int 0, 2))) Γ fun a741 => some (.next (setV [] 1 a741 Γ))
noncomputable def b__law_longest_1 : G → Option O := fun Γ => bindO (bindE (bindR (bindR (getV 1 Γ) fun a747 => bindR (bindR (bindR (bindR (getV 3 Γ) fun a743 => bindR (some (.ok [])) fun a744 => some (.ok (a743.1 :: a744))) lenF) fun a745 => bindR (some (.ok [])) fun a746 => some (.ok (a745.1 :: a746))) fun a748 => some (.ok (a747.1 :: a748))) maxF) Γ fun a742 => some (.next (setV [1, 3] 1 a742 Γ))) fun Γ => some (.next Γ)
noncomputable def i__law_longest_1 : G → Option (R (List D)) := fun Γ => bindR (getV 2 Γ) itF
noncomputable def b__law_longest_2 : G → Option O := fun Γ => bindO (forF [2] 3 i__law_longest_1 b__law_longest_1 Γ) fun Γ => some (.next Γ)
noncomputable def s__law_longest_2 : G → Option O := fun Γ => forF [0] 2 (fun Γ => bindR (getV 0 Γ) itF) b__law_longest_2 Γ
noncomputable def s__law_longest_3 : G → Option O := fun Γ => retV 1 Γ
noncomputable def f__law_longest : G → Option O := fun Γ => bindO (s__law_longest_1 Γ) fun Γ => bindO (s__law_longest_2 Γ) fun Γ => bindO (s__law_longest_3 Γ) fun Γ => some (.next Γ)
noncomputable def F__law_longest : List D → Option (R (D × Nat)) := fnF 1 3 f__law_longest
theorem den__law_longest {c : Cx} (ok : c.Ok) (B : Bi c)  : DenSs c false 0 (recAt PySem.Challenge.pw_uf040006_13 45).scope ["_law_parts_here", "_law_most", "_law_held", "_law_word"] (recAt PySem.Challenge.pw_uf040006_13 45).body f__law_longest :=
  denSs_cons (denS_assign 1 (den_int)) (denSs_cons (denS_for 2 (den_it (den_var 0)) (denSs_cons (denS_for 3 (den_it (den_var 2)) (denSs_cons (denS_assign 1 (den_bi ok B.max op_max (denA_cons (den_var 1) (denA_cons (den_bi ok B.len op_len (denA_cons (den_var 3) (denA_nil))) (denA_nil))))) (denSs_nil))) (denSs_nil))) (denSs_cons (denS_retvar 1) (denSs_nil)))
theorem bind__law_longest : ∀ pm code doc (vals : List Value), vals.length = (["_law_parts_here"] : List Str).length → bindArgs (Calls.docDef (recAt PySem.Challenge.pw_uf040006_13 45).name (recAt PySem.Challenge.pw_uf040006_13 45).params (recAt PySem.Challenge.pw_uf040006_13 45).body (recAt PySem.Challenge.pw_uf040006_13 45).scope pm code doc) ⟨vals, []⟩ = pure ((["_law_parts_here"] : List Str).zip vals) := by
  intro pm code doc vals h
  obtain ⟨v0, rfl⟩ := len1 h
  rfl
theorem fn__law_longest {c : Cx} (ok : c.Ok) (B : Bi c)  (hf : FnRec c (recAt PySem.Challenge.pw_uf040006_13 45)) : Fn c false 1 "_law_longest" F__law_longest :=
  fn_of (ps := ["_law_parts_here"]) 3 ok hf (den__law_longest ok B ) bind__law_longest
noncomputable def s__law_squared_1 : G → Option O := fun Γ => bindE (bindR (some (.ok [])) listF) Γ fun a749 => some (.next (setV [] 2 a749 Γ))
noncomputable def e__law_squared_1 : G → Option (R (D × Nat)) := fun Γ => bindR (bindR (bindR (getV 2 Γ) fun a788 => bindR (bindR (bindR (getV 3 Γ) fun a784 => bindR (getV 0 Γ) fun a785 => itemF [a784.1, a785.1]) asIntR) fun a789 => bindR (bindR (bindR (getV 4 Γ) fun a786 => bindR (getV 0 Γ) fun a787 => itemF [a786.1, a787.1]) asIntR) fun a790 => sliceF a789 a790 a788.1) fun a793 => bindR (bindR (getV 1 Γ) fun a791 => bindR (some (.ok [])) fun a792 => some (.ok (a791.1 :: a792))) fun a794 => some (.ok (a793.1 :: a794))) F__law_spread
noncomputable def a__law_squared_1 : G → Option (R (D × Nat)) := fun Γ => bindR (some (.ok (.str [32], 2))) fun a803 => methF joinF a803.1 (bindR (bindR (getV 3 Γ) fun a798 => bindR (bindR (bindR (getV 4 Γ) fun a796 => bindR (bindR (some (.ok (.int 1, 2))) fun a795 => negF [a795.1]) fun a797 => itemF [a796.1, a797.1]) asIntR) fun a799 => bindR (some (.ok none)) fun a800 => sliceF a799 a800 a798.1) fun a801 => bindR (some (.ok [])) fun a802 => some (.ok (a801.1 :: a802)))
noncomputable def a__law_squared_2 : G → Option (R (D × Nat)) := fun Γ => bindR (some (.ok (.str [10], 2))) fun a806 => methF joinF a806.1 (bindR (getV 6 Γ) fun a804 => bindR (some (.ok [])) fun a805 => some (.ok (a804.1 :: a805)))
noncomputable def b__law_squared_1 : G → Option O := fun Γ => bindO (bindE (bindR (bindR (bindR (bindR (getV 3 Γ) fun a751 => bindR (some (.ok [])) fun a752 => some (.ok (a751.1 :: a752))) listCF) fun a755 => bindR (bindR (getV 1 Γ) fun a753 => bindR (some (.ok [])) fun a754 => some (.ok (a753.1 :: a754))) fun a756 => some (.ok (a755.1 :: a756))) F_best_starts) Γ fun a750 => some (.next (setV [3, 1] 4 a750 Γ))) fun Γ => bindO (bindE (bindR (bindR (bindR (bindR (getV 3 Γ) fun a761 => bindR (bindR (getV 1 Γ) fun a759 => bindR (bindR (getV 4 Γ) fun a757 => bindR (some (.ok [])) fun a758 => some (.ok (a757.1 :: a758))) fun a760 => some (.ok (a759.1 :: a760))) fun a762 => some (.ok (a761.1 :: a762))) F__law_are_starts) fun a763 => (truthD a763.1).map .ok) fun a764 => some (.ok (!a764))) Γ fun a766 => if a766 then (bindO (bindE (some (.ok (.none, 2))) Γ fun a765 => some (.ret a765.1 a765.2)) fun Γ => some (.next Γ)) else (some (.next Γ))) fun Γ => bindO (bindE (bindR (bindR (getV 4 Γ) fun a768 => bindR (bindR (some (.ok (.int 1, 2))) asIntR) fun a769 => bindR (some (.ok none)) fun a770 => sliceF a769 a770 a768.1) fun a775 => bindR (bindR (bindR (bindR (bindR (getV 3 Γ) fun a771 => bindR (some (.ok [])) fun a772 => some (.ok (a771.1 :: a772))) lenF) fun a773 => bindR (some (.ok [])) fun a774 => some (.ok (a773.1 :: a774))) listF) fun a776 => addF [a775.1, a776.1]) Γ fun a767 => some (.next (setV [4, 3] 5 a767 Γ))) fun Γ => bindO (bindE (bindR (bindR (bindR (bindR (bindR (bindR (getV 4 Γ) fun a778 => bindR (some (.ok [])) fun a779 => some (.ok (a778.1 :: a779))) lenF) fun a780 => bindR (some (.ok (.int 1, 2))) fun a781 => subF [a780.1, a781.1]) fun a782 => bindR (some (.ok [])) fun a783 => some (.ok (a782.1 :: a783))) rngF) (compF e__law_squared_1 (fun _ => some (.ok true)) [1, 3, 4, 5] Γ)) Γ fun a777 => some (.next (setV [1, 3, 4, 5] 6 a777 Γ))) fun Γ => bindO (appF [3] 6 a__law_squared_1 Γ) fun Γ => bindO (appF [6] 2 a__law_squared_2 Γ) fun Γ => some (.next Γ)
noncomputable def s__law_squared_2 : G → Option O := fun Γ => forF [0] 3 (fun Γ => bindR (getV 0 Γ) itF) b__law_squared_1 Γ
noncomputable def s__law_squared_3 : G → Option O := fun Γ => bindE (bindR (some (.ok (.str [10, 10], 2))) fun a809 => methF joinF a809.1 (bindR (getV 2 Γ) fun a807 => bindR (some (.ok [])) fun a808 => some (.ok (a807.1 :: a808)))) Γ fun a810 => some (.ret a810.1 a810.2)
noncomputable def f__law_squared : G → Option O := fun Γ => bindO (s__law_squared_1 Γ) fun Γ => bindO (s__law_squared_2 Γ) fun Γ => bindO (s__law_squared_3 Γ) fun Γ => some (.next Γ)
noncomputable def F__law_squared : List D → Option (R (D × Nat)) := fnF 2 5 f__law_squared
theorem den__law_squared {c : Cx} (ok : c.Ok) (B : Bi c) (h__law_are_starts : Fn c false 5 "_law_are_starts" F__law_are_starts) (h__law_spread : Fn c false 5 "_law_spread" F__law_spread) (h_best_starts : Fn c false 5 "best_starts" F_best_starts) : DenSs c false 5 (recAt PySem.Challenge.pw_uf040006_13 46).scope ["_law_parts_here", "_law_width", "_law_blocks", "_law_held", "_law_told", "_law_ends", "_law_rows"] (recAt PySem.Challenge.pw_uf040006_13 46).body f__law_squared :=
  denSs_cons (denS_assign 2 (den_list (denA_nil))) (denSs_cons (denS_for 3 (den_it (den_var 0)) (denSs_cons (denS_assign 4 (den_call ok h_best_starts (denA_cons (den_ty ok B.list_ op_list (denA_cons (den_var 3) (denA_nil))) (denA_cons (den_var 1) (denA_nil))))) (denSs_cons (denS_if (denB_not (denB_val (den_call ok h__law_are_starts (denA_cons (den_var 3) (denA_cons (den_var 1) (denA_cons (den_var 4) (denA_nil))))))) (denSs_cons (denS_return (den_none)) (denSs_nil)) (denSs_nil)) (denSs_cons (denS_assign 5 (den_bin op_add (den_slice (den_var 4) (denO_some (den_int)) denO_none) (den_list (denA_cons (den_bi ok B.len op_len (denA_cons (den_var 3) (denA_nil))) (denA_nil))))) (denSs_cons (denS_assignC 6 [1, 3, 4, 5] (den_range ok B.range_ (denA_cons (den_bin op_sub (den_bi ok B.len op_len (denA_cons (den_var 4) (denA_nil))) (den_int)) (denA_nil))) denT_nil (den_call ok h__law_spread (denA_cons (den_slice (den_var 2) (denO_some (den_idx (den_var 3) (den_var 0))) (denO_some (den_idx (den_var 4) (den_var 0)))) (denA_cons (den_var 1) (denA_nil))))) (denSs_cons (denS_append 6 (den_join (den_strL) (denA_cons (den_slice (den_var 3) (denO_some (den_idx (den_var 4) (den_un op_neg (den_int)))) denO_none) (denA_nil)))) (denSs_cons (denS_append 2 (den_join (den_strL) (denA_cons (den_var 6) (denA_nil)))) (denSs_nil)))))))) (denSs_cons (denS_return (den_join (den_strL) (denA_cons (den_var 2) (denA_nil)))) (denSs_nil)))
theorem bind__law_squared : ∀ pm code doc (vals : List Value), vals.length = (["_law_parts_here", "_law_width"] : List Str).length → bindArgs (Calls.docDef (recAt PySem.Challenge.pw_uf040006_13 46).name (recAt PySem.Challenge.pw_uf040006_13 46).params (recAt PySem.Challenge.pw_uf040006_13 46).body (recAt PySem.Challenge.pw_uf040006_13 46).scope pm code doc) ⟨vals, []⟩ = pure ((["_law_parts_here", "_law_width"] : List Str).zip vals) := by
  intro pm code doc vals h
  obtain ⟨v0, v1, rfl⟩ := len2 h
  rfl
theorem fn__law_squared {c : Cx} (ok : c.Ok) (B : Bi c) (h__law_are_starts : Fn c false 5 "_law_are_starts" F__law_are_starts) (h__law_spread : Fn c false 5 "_law_spread" F__law_spread) (h_best_starts : Fn c false 5 "best_starts" F_best_starts) (hf : FnRec c (recAt PySem.Challenge.pw_uf040006_13 46)) : Fn c false 6 "_law_squared" F__law_squared :=
  fn_of (ps := ["_law_parts_here", "_law_width"]) 5 ok hf (den__law_squared ok B h__law_are_starts h__law_spread h_best_starts) bind__law_squared
noncomputable def s_law_1 : G → Option O := fun Γ => bindE (bindR (bindR (bindR (getV 0 Γ) fun a812 => bindR (bindR (some (.ok (.int 2, 2))) asIntR) fun a813 => bindR (some (.ok none)) fun a814 => sliceF a813 a814 a812.1) fun a827 => bindR (bindR (bindR (bindR (bindR (bindR (bindR (getV 0 Γ) fun a817 => bindR (bindR (some (.ok (.int 0, 2))) fun a815 => bindR (some (.ok [])) fun a816 => some (.ok (a815.1 :: a816))) fun a818 => some (.ok (a817.1 :: a818))) F__law_cell_at) fun a819 => bindR (some (.ok (.int 16, 2))) fun a820 => divF [a819.1, a820.1]) fun a821 => bindR (some (.ok (.int 3, 2))) fun a822 => modF [a821.1, a822.1]) fun a823 => bindR (some (.ok (.int 1, 2))) fun a824 => eqF [a823.1, a824.1]) fun a825 => bindR (some (.ok [])) fun a826 => some (.ok (a825.1 :: a826))) fun a828 => some (.ok (a827.1 :: a828))) F__law_text_by) Γ fun a811 => some (.next (setV [0, 0] 1 a811 Γ))
noncomputable def s_law_2 : G → Option O := fun Γ => bindE (bindR (bindR (bindR (bindR (getV 0 Γ) fun a831 => bindR (bindR (some (.ok (.int 0, 2))) fun a829 => bindR (some (.ok [])) fun a830 => some (.ok (a829.1 :: a830))) fun a832 => some (.ok (a831.1 :: a832))) F__law_cell_at) fun a833 => bindR (some (.ok (.int 4, 2))) fun a834 => modF [a833.1, a834.1]) fun a835 => bindR (some (.ok (.int 1, 2))) fun a836 => bindR (eqF [a835.1, a836.1]) fun a837 => (truthD a837.1).map .ok) Γ fun a857 => if a857 then (bindO (bindE (bindR (getV 1 Γ) fun a855 => bindR (bindR (some (.ok (.int 5, 2))) fun a853 => bindR (bindR (some (.ok (.int 15, 2))) fun a851 => bindR (bindR (bindR (bindR (bindR (bindR (bindR (bindR (getV 0 Γ) fun a841 => bindR (bindR (some (.ok (.int 0, 2))) fun a839 => bindR (some (.ok [])) fun a840 => some (.ok (a839.1 :: a840))) fun a842 => some (.ok (a841.1 :: a842))) F__law_cell_at) fun a843 => bindR (some (.ok (.int 4, 2))) fun a844 => divF [a843.1, a844.1]) fun a845 => bindR (some (.ok (.int 4, 2))) fun a846 => modF [a845.1, a846.1]) fun a847 => bindR (some (.ok (.int 1, 2))) fun a848 => eqF [a847.1, a848.1]) fun a849 => bindR (some (.ok [])) fun a850 => some (.ok (a849.1 :: a850))) intF) fun a852 => mulF [a851.1, a852.1]) fun a854 => addF [a853.1, a854.1]) fun a856 => mulF [a855.1, a856.1]) Γ fun a838 => some (.next (setV [1, 0] 1 a838 Γ))) fun Γ => some (.next Γ)) else (some (.next Γ))
noncomputable def s_law_3 : G → Option O := fun Γ => bindE (bindR (bindR (getV 1 Γ) fun a859 => bindR (some (.ok [])) fun a860 => some (.ok (a859.1 :: a860))) F__law_parts) Γ fun a858 => some (.next (setV [1] 2 a858 Γ))
noncomputable def s_law_4 : G → Option O := fun Γ => bindE (bindR (bindR (bindR (getV 0 Γ) fun a864 => bindR (bindR (some (.ok (.int 1, 2))) fun a862 => bindR (some (.ok [])) fun a863 => some (.ok (a862.1 :: a863))) fun a865 => some (.ok (a864.1 :: a865))) F__law_cell_at) fun a866 => bindR (some (.ok (.int 41, 2))) fun a867 => modF [a866.1, a867.1]) Γ fun a861 => some (.next (setV [0] 3 a861 Γ))
noncomputable def s_law_5 : G → Option O := fun Γ => bindE (bindR (bindR (bindR (bindR (bindR (getV 0 Γ) fun a870 => bindR (bindR (some (.ok (.int 1, 2))) fun a868 => bindR (some (.ok [])) fun a869 => some (.ok (a868.1 :: a869))) fun a871 => some (.ok (a870.1 :: a871))) F__law_cell_at) fun a872 => bindR (some (.ok (.int 41, 2))) fun a873 => divF [a872.1, a873.1]) fun a874 => bindR (some (.ok (.int 4, 2))) fun a875 => modF [a874.1, a875.1]) fun a876 => bindR (some (.ok (.int 0, 2))) fun a877 => bindR (gtF [a876.1, a877.1]) fun a878 => (truthD a878.1).map .ok) Γ fun a890 => if a890 then (bindO (bindE (bindR (bindR (bindR (getV 2 Γ) fun a880 => bindR (some (.ok [])) fun a881 => some (.ok (a880.1 :: a881))) F__law_longest) fun a888 => bindR (bindR (bindR (bindR (getV 0 Γ) fun a884 => bindR (bindR (some (.ok (.int 1, 2))) fun a882 => bindR (some (.ok [])) fun a883 => some (.ok (a882.1 :: a883))) fun a885 => some (.ok (a884.1 :: a885))) F__law_cell_at) fun a886 => bindR (some (.ok (.int 17, 2))) fun a887 => modF [a886.1, a887.1]) fun a889 => addF [a888.1, a889.1]) Γ fun a879 => some (.next (setV [2, 0] 3 a879 Γ))) fun Γ => some (.next Γ)) else (some (.next Γ))
noncomputable def s_law_6 : G → Option O := fun Γ => bindE (bindR (bindR (bindR (bindR (bindR (getV 0 Γ) fun a893 => bindR (bindR (some (.ok (.int 1, 2))) fun a891 => bindR (some (.ok [])) fun a892 => some (.ok (a891.1 :: a892))) fun a894 => some (.ok (a893.1 :: a894))) F__law_cell_at) fun a895 => bindR (some (.ok (.int 41, 2))) fun a896 => divF [a895.1, a896.1]) fun a897 => bindR (some (.ok (.int 4, 2))) fun a898 => modF [a897.1, a898.1]) fun a899 => bindR (some (.ok (.int 3, 2))) fun a900 => bindR (eqF [a899.1, a900.1]) fun a901 => (truthD a901.1).map .ok) Γ fun a913 => if a913 then (bindO (bindE (bindR (some (.ok (.int 41, 2))) fun a911 => bindR (bindR (bindR (bindR (bindR (getV 0 Γ) fun a905 => bindR (bindR (some (.ok (.int 1, 2))) fun a903 => bindR (some (.ok [])) fun a904 => some (.ok (a903.1 :: a904))) fun a906 => some (.ok (a905.1 :: a906))) F__law_cell_at) fun a907 => bindR (some (.ok (.int 164, 2))) fun a908 => divF [a907.1, a908.1]) fun a909 => bindR (some (.ok (.int 200, 2))) fun a910 => modF [a909.1, a910.1]) fun a912 => addF [a911.1, a912.1]) Γ fun a902 => some (.next (setV [0] 3 a902 Γ))) fun Γ => some (.next Γ)) else (some (.next Γ))
noncomputable def s_law_7 : G → Option O := fun Γ => bindE (bindR (bindR (bindR (bindR (bindR (getV 0 Γ) fun a916 => bindR (bindR (some (.ok (.int 1, 2))) fun a914 => bindR (some (.ok [])) fun a915 => some (.ok (a914.1 :: a915))) fun a917 => some (.ok (a916.1 :: a917))) F__law_cell_at) fun a918 => bindR (some (.ok (.int 123, 2))) fun a919 => divF [a918.1, a919.1]) fun a920 => bindR (some (.ok (.int 9, 2))) fun a921 => modF [a920.1, a921.1]) fun a922 => bindR (some (.ok (.int 1, 2))) fun a923 => bindR (eqF [a922.1, a923.1]) fun a924 => (truthD a924.1).map .ok) Γ fun a928 => if a928 then (bindO (bindE (bindR (some (.ok (.int 10, 2))) fun a926 => bindR (some (.ok (.int 30, 2))) fun a927 => powF [a926.1, a927.1]) Γ fun a925 => some (.next (setV [] 3 a925 Γ))) fun Γ => some (.next Γ)) else (some (.next Γ))
noncomputable def s_law_8 : G → Option O := fun Γ => bindE (bindR (bindR (bindR (bindR (bindR (getV 0 Γ) fun a931 => bindR (bindR (some (.ok (.int 1, 2))) fun a929 => bindR (some (.ok [])) fun a930 => some (.ok (a929.1 :: a930))) fun a932 => some (.ok (a931.1 :: a932))) F__law_cell_at) fun a933 => bindR (some (.ok (.int 123, 2))) fun a934 => divF [a933.1, a934.1]) fun a935 => bindR (some (.ok (.int 9, 2))) fun a936 => modF [a935.1, a936.1]) fun a937 => bindR (some (.ok (.int 2, 2))) fun a938 => bindR (eqF [a937.1, a938.1]) fun a939 => (truthD a939.1).map .ok) Γ fun a950 => if a950 then (bindO (bindE (bindR (bindR (bindR (bindR (getV 0 Γ) fun a943 => bindR (bindR (some (.ok (.int 1, 2))) fun a941 => bindR (some (.ok [])) fun a942 => some (.ok (a941.1 :: a942))) fun a944 => some (.ok (a943.1 :: a944))) F__law_cell_at) fun a947 => bindR (bindR (some (.ok (.int 10, 2))) fun a945 => bindR (some (.ok (.int 9, 2))) fun a946 => powF [a945.1, a946.1]) fun a948 => modF [a947.1, a948.1]) fun a949 => negF [a949.1]) Γ fun a940 => some (.next (setV [0] 3 a940 Γ))) fun Γ => some (.next Γ)) else (some (.next Γ))
noncomputable def s_law_9 : G → Option O := fun Γ => bindE (bindR (bindR (getV 3 Γ) fun a951 => bindR (some (.ok (.int 1, 2))) fun a952 => bindR (ltF [a951.1, a952.1]) fun a953 => (truthD a953.1).map .ok) fun a960 => if a960 then some (.ok true) else (bindR (bindR (bindR (bindR (getV 2 Γ) fun a954 => bindR (some (.ok [])) fun a955 => some (.ok (a954.1 :: a955))) F__law_longest) fun a956 => bindR (getV 3 Γ) fun a957 => bindR (gtF [a956.1, a957.1]) fun a958 => (truthD a958.1).map .ok) fun a959 => if a959 then some (.ok true) else (some (.ok false)))) Γ fun a974 => if a974 then (bindO (bindE (bindR (bindR (bindR (getV 1 Γ) fun a963 => bindR (bindR (getV 3 Γ) fun a961 => bindR (some (.ok [])) fun a962 => some (.ok (a961.1 :: a962))) fun a964 => some (.ok (a963.1 :: a964))) F__law_refusal) fun a971 => bindR (bindR (some (.ok (.int 11, 2))) fun a969 => bindR (bindR (bindR (bindR (getV 3 Γ) fun a965 => bindR (some (.ok (.int 1, 2))) fun a966 => geF [a965.1, a966.1]) fun a967 => bindR (some (.ok [])) fun a968 => some (.ok (a967.1 :: a968))) intF) fun a970 => addF [a969.1, a970.1]) fun a972 => eqF [a971.1, a972.1]) Γ fun a973 => some (.ret a973.1 a973.2)) fun Γ => some (.next Γ)) else (some (.next Γ))
noncomputable def s_law_10 : G → Option O := fun Γ => bindE (bindR (bindR (getV 2 Γ) fun a978 => bindR (bindR (getV 3 Γ) fun a976 => bindR (some (.ok [])) fun a977 => some (.ok (a976.1 :: a977))) fun a979 => some (.ok (a978.1 :: a979))) F__law_squared) Γ fun a975 => some (.next (setV [2, 3] 4 a975 Γ))
noncomputable def s_law_11 : G → Option O := fun Γ => bindE (bindR (bindR (getV 1 Γ) fun a983 => bindR (bindR (getV 3 Γ) fun a981 => bindR (some (.ok [])) fun a982 => some (.ok (a981.1 :: a982))) fun a984 => some (.ok (a983.1 :: a984))) F_squared) Γ fun a980 => some (.next (setV [1, 3] 5 a980 Γ))
noncomputable def s_law_12 : G → Option O := fun Γ => bindE (bindR (bindR (getV 4 Γ) fun a985 => bindR (some (.ok (.none, 2))) fun a986 => isnF [a985.1, a986.1]) fun a990 => andF a990 (bindR (bindR (getV 5 Γ) (isiF "str")) fun a989 => andF a989 (bindR (getV 5 Γ) fun a987 => bindR (getV 4 Γ) fun a988 => eqF [a987.1, a988.1]))) Γ fun a991 => some (.ret a991.1 a991.2)
noncomputable def f_law : G → Option O := fun Γ => bindO (s_law_1 Γ) fun Γ => bindO (s_law_2 Γ) fun Γ => bindO (s_law_3 Γ) fun Γ => bindO (s_law_4 Γ) fun Γ => bindO (s_law_5 Γ) fun Γ => bindO (s_law_6 Γ) fun Γ => bindO (s_law_7 Γ) fun Γ => bindO (s_law_8 Γ) fun Γ => bindO (s_law_9 Γ) fun Γ => bindO (s_law_10 Γ) fun Γ => bindO (s_law_11 Γ) fun Γ => bindO (s_law_12 Γ) fun Γ => some (.next Γ)
noncomputable def F_law : List D → Option (R (D × Nat)) := fnF 1 5 f_law
theorem den_law {c : Cx} (ok : c.Ok) (B : Bi c) (h__law_cell_at : Fn c false 8 "_law_cell_at" F__law_cell_at) (h__law_longest : Fn c false 8 "_law_longest" F__law_longest) (h__law_parts : Fn c false 8 "_law_parts" F__law_parts) (h__law_refusal : Fn c false 8 "_law_refusal" F__law_refusal) (h__law_squared : Fn c false 8 "_law_squared" F__law_squared) (h__law_text_by : Fn c false 8 "_law_text_by" F__law_text_by) (h_squared : Fn c false 8 "squared" F_squared) : DenSs c false 8 (recAt PySem.Challenge.pw_uf040006_13 47).scope ["_law_script", "_law_signs", "_law_parts_here", "_law_width", "_law_due", "_law_found"] (recAt PySem.Challenge.pw_uf040006_13 47).body f_law :=
  denSs_cons (denS_assign 1 (den_call ok h__law_text_by (denA_cons (den_slice (den_var 0) (denO_some (den_int)) denO_none) (denA_cons (den_cmp op_eq (den_bin op_mod (den_bin op_div (den_call ok h__law_cell_at (denA_cons (den_var 0) (denA_cons (den_int) (denA_nil)))) (den_int)) (den_int)) (den_int)) (denA_nil))))) (denSs_cons (denS_if (denB_cmp op_eq (den_bin op_mod (den_call ok h__law_cell_at (denA_cons (den_var 0) (denA_cons (den_int) (denA_nil)))) (den_int)) (den_int)) (denSs_cons (denS_assign 1 (den_bin op_mul (den_var 1) (den_bin op_add (den_int) (den_bin op_mul (den_int) (den_ty ok B.int_ op_int (denA_cons (den_cmp op_eq (den_bin op_mod (den_bin op_div (den_call ok h__law_cell_at (denA_cons (den_var 0) (denA_cons (den_int) (denA_nil)))) (den_int)) (den_int)) (den_int)) (denA_nil))))))) (denSs_nil)) (denSs_nil)) (denSs_cons (denS_assign 2 (den_call ok h__law_parts (denA_cons (den_var 1) (denA_nil)))) (denSs_cons (denS_assign 3 (den_bin op_mod (den_call ok h__law_cell_at (denA_cons (den_var 0) (denA_cons (den_int) (denA_nil)))) (den_int))) (denSs_cons (denS_if (denB_cmp op_gt (den_bin op_mod (den_bin op_div (den_call ok h__law_cell_at (denA_cons (den_var 0) (denA_cons (den_int) (denA_nil)))) (den_int)) (den_int)) (den_int)) (denSs_cons (denS_assign 3 (den_bin op_add (den_call ok h__law_longest (denA_cons (den_var 2) (denA_nil))) (den_bin op_mod (den_call ok h__law_cell_at (denA_cons (den_var 0) (denA_cons (den_int) (denA_nil)))) (den_int)))) (denSs_nil)) (denSs_nil)) (denSs_cons (denS_if (denB_cmp op_eq (den_bin op_mod (den_bin op_div (den_call ok h__law_cell_at (denA_cons (den_var 0) (denA_cons (den_int) (denA_nil)))) (den_int)) (den_int)) (den_int)) (denSs_cons (denS_assign 3 (den_bin op_add (den_int) (den_bin op_mod (den_bin op_div (den_call ok h__law_cell_at (denA_cons (den_var 0) (denA_cons (den_int) (denA_nil)))) (den_int)) (den_int)))) (denSs_nil)) (denSs_nil)) (denSs_cons (denS_if (denB_cmp op_eq (den_bin op_mod (den_bin op_div (den_call ok h__law_cell_at (denA_cons (den_var 0) (denA_cons (den_int) (denA_nil)))) (den_int)) (den_int)) (den_int)) (denSs_cons (denS_assign 3 (den_bin op_pow (den_int) (den_int))) (denSs_nil)) (denSs_nil)) (denSs_cons (denS_if (denB_cmp op_eq (den_bin op_mod (den_bin op_div (den_call ok h__law_cell_at (denA_cons (den_var 0) (denA_cons (den_int) (denA_nil)))) (den_int)) (den_int)) (den_int)) (denSs_cons (denS_assign 3 (den_un op_neg (den_bin op_mod (den_call ok h__law_cell_at (denA_cons (den_var 0) (denA_cons (den_int) (denA_nil)))) (den_bin op_pow (den_int) (den_int))))) (denSs_nil)) (denSs_nil)) (denSs_cons (denS_if (denB_bool (denL_or (denB_cmp op_lt (den_var 3) (den_int)) (denL_or (denB_cmp op_gt (den_call ok h__law_longest (denA_cons (den_var 2) (denA_nil))) (den_var 3)) (denL_or_nil)))) (denSs_cons (denS_return (den_cmp op_eq (den_call ok h__law_refusal (denA_cons (den_var 1) (denA_cons (den_var 3) (denA_nil)))) (den_bin op_add (den_int) (den_ty ok B.int_ op_int (denA_cons (den_cmp op_ge (den_var 3) (den_int)) (denA_nil)))))) (denSs_nil)) (denSs_nil)) (denSs_cons (denS_assign 4 (den_call ok h__law_squared (denA_cons (den_var 2) (denA_cons (den_var 3) (denA_nil))))) (denSs_cons (denS_assign 5 (den_call ok h_squared (denA_cons (den_var 1) (denA_cons (den_var 3) (denA_nil))))) (denSs_cons (denS_return (den_and (den_cmp op_isn (den_var 4) (den_none)) (den_and (den_isi ok B.isinstance B.str_ (den_var 5)) (den_one (den_cmp op_eq (den_var 5) (den_var 4)))))) (denSs_nil))))))))))))
theorem bind_law : ∀ pm code doc (vals : List Value), vals.length = (["_law_script"] : List Str).length → bindArgs (Calls.docDef (recAt PySem.Challenge.pw_uf040006_13 47).name (recAt PySem.Challenge.pw_uf040006_13 47).params (recAt PySem.Challenge.pw_uf040006_13 47).body (recAt PySem.Challenge.pw_uf040006_13 47).scope pm code doc) ⟨vals, []⟩ = pure ((["_law_script"] : List Str).zip vals) := by
  intro pm code doc vals h
  obtain ⟨v0, rfl⟩ := len1 h
  rfl
end L13
end Mine
namespace Mine.L13
open PySem PySem.Calls PyProof.Rows PySem.SeqAt PySem.W Mine
set_option linter.unusedSimpArgs false
theorem cell_at_ok (ns : List Int) (k : Nat) (h : ns.length ≤ 63) : ∃ lv, F__law_cell_at [.list (ns.map .int), .int (k : Int)] = some (.ok (.int (ns.getD k 0), lv)) := by
  have hb : (ns.map D.int).length ≤ big := by rw [List.length_map]; first | exact le_big (by assumption) | exact le_big6 (by assumption) | (unfold big; omega)
  by_cases hk : k < ns.length
  · refine ⟨0, ?_⟩
    have e : (ns.map D.int)[k]? = some (.int (ns.getD k 0)) := by simp [hk]
    simp [F__law_cell_at, fnF, argG, f__law_cell_at, s__law_cell_at_1, s__law_cell_at_2, lenF_list _ hb, hk, itemF_list e hb, outF]
  · refine ⟨2, ?_⟩
    simp [F__law_cell_at, fnF, argG, f__law_cell_at, s__law_cell_at_1, s__law_cell_at_2, lenF_list _ hb, hk, outF]
noncomputable def signs : List Nat := [33, 34, 35, 36, 38, 39, 40, 41, 42, 43, 44, 45, 46, 47, 48, 49, 50, 51, 52, 53, 54, 55, 56, 57, 58, 59, 60, 61, 62, 63, 64, 65, 66, 67, 68, 69, 70, 71, 72, 73, 74, 75, 76, 77, 78, 79, 80, 81, 82, 83, 84, 85, 86, 87, 88, 89, 90, 91, 92, 93, 94, 95, 96] ++ [97, 98, 99, 100, 101, 102, 103, 104, 105, 106, 107, 108, 109, 110, 111, 112, 113, 114, 115, 116, 117, 118, 119, 120, 121, 122, 123, 124, 125, 126]
noncomputable def signBy (c : Int) : Nat := signs.getD (c.fmod 93).toNat 33
theorem sign_by_ok (c : Int) : F__law_sign_by [.int c] = some (.ok (.str [signBy c], 2)) := by
  have h1 : 0 ≤ c.fmod 93 := Int.fmod_nonneg_of_pos _ (by decide)
  have h2 : c.fmod 93 < 93 := Int.fmod_lt_of_pos _ (by decide)
  have hl : signs.length = 93 := rfl
  have e : signs[(c.fmod 93).toNat]? = some (signBy c) := by
    unfold signBy
    rw [List.getD_eq_getElem?_getD, List.getElem?_eq_getElem (by omega)]; rfl
  have hi := itemF_str e (by rw [hl]; decide)
  have hc : (((c.fmod 93).toNat : Nat) : Int) = c.fmod 93 := by omega
  rw [hc] at hi
  simp only [F__law_sign_by, fnF, argG, f__law_sign_by, s__law_sign_by_1, s__law_sign_by_2, s__law_sign_by_3, List.length_cons, List.length_nil, if_true, List.map_cons, List.map_nil, List.replicate, List.cons_append, List.nil_append, itemLv_int, bindE_ok, bindO_next, setV_str, List.set_cons_succ, List.set_cons_zero, getV_s, getV_z, bindR_ok]
  rw [addF_str _ _ (by decide)]
  simp only [bindE_ok, bindO_next, setV_str, List.set_cons_succ, List.set_cons_zero, getV_s, getV_z, bindR_ok, modF_int _ _ (show (93 : Int) ≠ 0 by decide)]
  rw [show ([33, 34, 35, 36, 38, 39, 40, 41, 42, 43, 44, 45, 46, 47, 48, 49, 50, 51, 52, 53, 54, 55, 56, 57, 58, 59, 60, 61, 62, 63, 64, 65, 66, 67, 68, 69, 70, 71, 72, 73, 74, 75, 76, 77, 78, 79, 80, 81, 82, 83, 84, 85, 86, 87, 88, 89, 90, 91, 92, 93, 94, 95, 96] ++ [97, 98, 99, 100, 101, 102, 103, 104, 105, 106, 107, 108, 109, 110, 111, 112, 113, 114, 115, 116, 117, 118, 119, 120, 121, 122, 123, 124, 125, 126] : List Nat) = signs from rfl, hi]
  rfl
theorem whole_ok (a : Int) : F__law_whole [.int a] = some (.ok (.bool true, 2)) := by rfl
theorem kind11 : F__law_kind [.exc "NoWidth"] = some (.ok (.int 11, 2)) := by rfl
theorem kind12 : F__law_kind [.exc "LongWord"] = some (.ok (.int 12, 2)) := by rfl
theorem size_of_ok (ws : List (List Nat)) (b e : Nat) (hbe : b ≤ e) (he : e ≤ ws.length) (hl : ws.length ≤ 90000) (hw : (ws.map List.length).sum ≤ 3000000) : F_size_of [.list (ws.map .str), .int (b : Int), .int (e : Int)] = some (.ok (.int (sz ws b e : Nat), 2)) := by
  have hg : argG 0 [.list (ws.map D.str), .int (b : Int), .int (e : Int)] = [some (.list (ws.map .str), 0), some (.int (b : Int), 2), some (.int (e : Int), 2)] := rfl
  unfold F_size_of
  rw [fnF_of (by rfl), hg]
  unfold f_size_of
  by_cases h : b = e
  · subst h
    simp only [getV_s, getV_z, bindR_ok, bindR_exc, bindE_ok, bindE_exc, bindO_next, bindO_ret, bindO_exc, bindO_raise, bindO_brk, bindO_cont, setV_int, setV_str, setV_bool, setV_none, setV_list2, List.set_cons_succ, List.set_cons_zero, truthD_bool, Option.map_some, if_true, if_false, Bool.false_eq_true, retV_z, retV_s, addF_int, subF_int, ltF_int, leF_int, gtF_int, geF_int, eqF_int, neF_int, eqF_str, neF_str, andF_true, andF_false, orF_true, orF_false, isiF_list, isiF_str, isiF_int, isiF_bool, modF_lit, divF_lit, negF_int, notF_bool, asIntR_int, intF_bool, maxF_two, isF_int_none, isF_none_none, isF_list_none, itemF_tup0, itemF_tup1, methF_str, Nat.reduceLT, decide_true, decide_false, beq_self_eq_true, Bool.not_true, Bool.not_false, itemLv_int, itemLv_str, itemLv_list, itemLv_bool, itemLv_none, lvOf_strs, lvOf_ints, ne_eq, not_false_eq_true, not_true_eq_false, s_size_of_1]
    simp [sz, outF]
  · have hne : ((b : Int) == (e : Int)) = false := by simp; omega
    have hr := rngF_two b e hbe (by first | exact le_lim (by assumption) | exact le_lim6 (by assumption) | (unfold lim; omega))
    have hc := compF_src (fE := e_size_of_1) (cap := [0]) (Γ := [some (.list (ws.map .str), 0), some (.int (b : Int), 2), some (.int (e : Int), 2)]) (fun (i : Nat) => D.int ((b + i : Nat) : Int)) (fun i => .int ((ws.getD (b + i) []).length : Int)) (List.range (e - b)) (by
      intro i hi
      have hi := List.mem_range.mp hi
      have hx : ws[b + i]? = some (ws.getD (b + i) []) := by simp [List.getElem?_eq_getElem (show b + i < ws.length by omega)]
      have hlen : (ws.getD (b + i) []).length ≤ big := by
        have := mem_sum (List.mem_of_getElem? hx); first | exact le_big (by assumption) | exact le_big6 (by assumption) | (unfold big; omega)
      refine ⟨2, ?_⟩
      simp only [getV_s, getV_z, bindR_ok, bindR_exc, bindE_ok, bindE_exc, bindO_next, bindO_ret, bindO_exc, bindO_raise, bindO_brk, bindO_cont, setV_int, setV_str, setV_bool, setV_none, setV_list2, List.set_cons_succ, List.set_cons_zero, truthD_bool, Option.map_some, if_true, if_false, Bool.false_eq_true, retV_z, retV_s, addF_int, subF_int, ltF_int, leF_int, gtF_int, geF_int, eqF_int, neF_int, eqF_str, neF_str, andF_true, andF_false, orF_true, orF_false, isiF_list, isiF_str, isiF_int, isiF_bool, modF_lit, divF_lit, negF_int, notF_bool, asIntR_int, intF_bool, maxF_two, isF_int_none, isF_none_none, isF_list_none, itemF_tup0, itemF_tup1, methF_str, Nat.reduceLT, decide_true, decide_false, beq_self_eq_true, Bool.not_true, Bool.not_false, itemLv_int, itemLv_str, itemLv_list, itemLv_bool, itemLv_none, lvOf_strs, lvOf_ints, ne_eq, not_false_eq_true, not_true_eq_false, e_size_of_1, compG, List.map_cons, List.map_nil, List.getElem?_cons_zero, Option.join_some, itemF_at D.str ws (b + i) _ hx (by first | exact le_big (by assumption) | exact le_big6 (by assumption) | (unfold big; omega)), lenF_str _ hlen])
    have hm : (List.range (e - b)).map (fun i => D.int ((ws.getD (b + i) []).length : Int)) = ((((ws.drop b).take (e - b)).map List.length).map fun (n : Nat) => (n : Int)).map .int := by
      rw [← drop_take_range ws b e he]; simp
    rw [hm] at hc
    simp only [getV_s, getV_z, bindR_ok, bindR_exc, bindE_ok, bindE_exc, bindO_next, bindO_ret, bindO_exc, bindO_raise, bindO_brk, bindO_cont, setV_int, setV_str, setV_bool, setV_none, setV_list2, List.set_cons_succ, List.set_cons_zero, truthD_bool, Option.map_some, if_true, if_false, Bool.false_eq_true, retV_z, retV_s, addF_int, subF_int, ltF_int, leF_int, gtF_int, geF_int, eqF_int, neF_int, eqF_str, neF_str, andF_true, andF_false, orF_true, orF_false, isiF_list, isiF_str, isiF_int, isiF_bool, modF_lit, divF_lit, negF_int, notF_bool, asIntR_int, intF_bool, maxF_two, isF_int_none, isF_none_none, isF_list_none, itemF_tup0, itemF_tup1, methF_str, Nat.reduceLT, decide_true, decide_false, beq_self_eq_true, Bool.not_true, Bool.not_false, itemLv_int, itemLv_str, itemLv_list, itemLv_bool, itemLv_none, lvOf_strs, lvOf_ints, ne_eq, not_false_eq_true, not_true_eq_false, s_size_of_1, hne, s_size_of_2, hr, hc, sumF_ints, natInt_sum]
    simp only [outF, sz]
    congr 3; congr 1; omega
theorem need_width_low (w : Int) (h : w < 1) : F_need_width [.int w] = some (.exc "NoWidth") := by
  have hg : argG 0 [.int w] = [some (.int w, 2)] := rfl
  unfold F_need_width
  rw [fnF_of (by rfl), hg]
  unfold f_need_width
  simp only [getV_s, getV_z, bindR_ok, bindR_exc, bindE_ok, bindE_exc, bindO_next, bindO_ret, bindO_exc, bindO_raise, bindO_brk, bindO_cont, setV_int, setV_str, setV_bool, setV_none, setV_list2, List.set_cons_succ, List.set_cons_zero, truthD_bool, Option.map_some, if_true, if_false, Bool.false_eq_true, retV_z, retV_s, addF_int, subF_int, ltF_int, leF_int, gtF_int, geF_int, eqF_int, neF_int, eqF_str, neF_str, andF_true, andF_false, orF_true, orF_false, isiF_list, isiF_str, isiF_int, isiF_bool, modF_lit, divF_lit, negF_int, notF_bool, asIntR_int, intF_bool, maxF_two, isF_int_none, isF_none_none, isF_list_none, itemF_tup0, itemF_tup1, methF_str, Nat.reduceLT, decide_true, decide_false, beq_self_eq_true, Bool.not_true, Bool.not_false, itemLv_int, itemLv_str, itemLv_list, itemLv_bool, itemLv_none, lvOf_strs, lvOf_ints, ne_eq, not_false_eq_true, not_true_eq_false, s_need_width_1, h]
  rfl
theorem need_width_ok (w : Int) (h : 1 ≤ w) : F_need_width [.int w] = some (.ok (.none, 2)) := by
  have hg : argG 0 [.int w] = [some (.int w, 2)] := rfl
  have h : ¬ w < 1 := by omega
  unfold F_need_width
  rw [fnF_of (by rfl), hg]
  unfold f_need_width
  simp only [getV_s, getV_z, bindR_ok, bindR_exc, bindE_ok, bindE_exc, bindO_next, bindO_ret, bindO_exc, bindO_raise, bindO_brk, bindO_cont, setV_int, setV_str, setV_bool, setV_none, setV_list2, List.set_cons_succ, List.set_cons_zero, truthD_bool, Option.map_some, if_true, if_false, Bool.false_eq_true, retV_z, retV_s, addF_int, subF_int, ltF_int, leF_int, gtF_int, geF_int, eqF_int, neF_int, eqF_str, neF_str, andF_true, andF_false, orF_true, orF_false, isiF_list, isiF_str, isiF_int, isiF_bool, modF_lit, divF_lit, negF_int, notF_bool, asIntR_int, intF_bool, maxF_two, isF_int_none, isF_none_none, isF_list_none, itemF_tup0, itemF_tup1, methF_str, Nat.reduceLT, decide_true, decide_false, beq_self_eq_true, Bool.not_true, Bool.not_false, itemLv_int, itemLv_str, itemLv_list, itemLv_bool, itemLv_none, lvOf_strs, lvOf_ints, ne_eq, not_false_eq_true, not_true_eq_false, s_need_width_1, h]
  rfl
theorem long_word_low (ws : List (List Nat)) (w : Int) (h : w < 1) : F_long_word [.list (ws.map .str), .int w] = some (.exc "NoWidth") := by
  have hg : argG 1 [.list (ws.map D.str), .int w] = [some (.list (ws.map .str), 0), some (.int w, 2), none] := rfl
  unfold F_long_word
  rw [fnF_of (by rfl), hg]
  unfold f_long_word
  simp only [getV_s, getV_z, bindR_ok, bindR_exc, bindE_ok, bindE_exc, bindO_next, bindO_ret, bindO_exc, bindO_raise, bindO_brk, bindO_cont, setV_int, setV_str, setV_bool, setV_none, setV_list2, List.set_cons_succ, List.set_cons_zero, truthD_bool, Option.map_some, if_true, if_false, Bool.false_eq_true, retV_z, retV_s, addF_int, subF_int, ltF_int, leF_int, gtF_int, geF_int, eqF_int, neF_int, eqF_str, neF_str, andF_true, andF_false, orF_true, orF_false, isiF_list, isiF_str, isiF_int, isiF_bool, modF_lit, divF_lit, negF_int, notF_bool, asIntR_int, intF_bool, maxF_two, isF_int_none, isF_none_none, isF_list_none, itemF_tup0, itemF_tup1, methF_str, Nat.reduceLT, decide_true, decide_false, beq_self_eq_true, Bool.not_true, Bool.not_false, itemLv_int, itemLv_str, itemLv_list, itemLv_bool, itemLv_none, lvOf_strs, lvOf_ints, ne_eq, not_false_eq_true, not_true_eq_false, s_long_word_1, need_width_low w h]
  rfl
theorem long_word_ok (ws : List (List Nat)) (w : Int) (h : 1 ≤ w) (hl : ws.length ≤ lim) (hw : ∀ w ∈ ws, w.length ≤ big) : F_long_word [.list (ws.map .str), .int w] = some (.ok (natD (longAt ws w), 2)) := by
  have hg : argG 1 [.list (ws.map D.str), .int w] = [some (.list (ws.map .str), 0), some (.int w, 2), none] := rfl
  have hlb : ws.length ≤ big := by unfold lim at hl; first | exact le_big (by assumption) | exact le_big6 (by assumption) | (unfold big; omega)
  unfold F_long_word
  rw [fnF_of (by rfl), hg]
  unfold f_long_word
  simp only [getV_s, getV_z, bindR_ok, bindR_exc, bindE_ok, bindE_exc, bindO_next, bindO_ret, bindO_exc, bindO_raise, bindO_brk, bindO_cont, setV_int, setV_str, setV_bool, setV_none, setV_list2, List.set_cons_succ, List.set_cons_zero, truthD_bool, Option.map_some, if_true, if_false, Bool.false_eq_true, retV_z, retV_s, addF_int, subF_int, ltF_int, leF_int, gtF_int, geF_int, eqF_int, neF_int, eqF_str, neF_str, andF_true, andF_false, orF_true, orF_false, isiF_list, isiF_str, isiF_int, isiF_bool, modF_lit, divF_lit, negF_int, notF_bool, asIntR_int, intF_bool, maxF_two, isF_int_none, isF_none_none, isF_list_none, itemF_tup0, itemF_tup1, methF_str, Nat.reduceLT, decide_true, decide_false, beq_self_eq_true, Bool.not_true, Bool.not_false, itemLv_int, itemLv_str, itemLv_list, itemLv_bool, itemLv_none, lvOf_strs, lvOf_ints, ne_eq, not_false_eq_true, not_true_eq_false, s_long_word_1, need_width_ok w h]
  unfold s_long_word_2
  rw [forF_of (by simp only [getV_s, getV_z, bindR_ok, bindR_exc, bindE_ok, bindE_exc, bindO_next, bindO_ret, bindO_exc, bindO_raise, bindO_brk, bindO_cont, setV_int, setV_str, setV_bool, setV_none, setV_list2, List.set_cons_succ, List.set_cons_zero, truthD_bool, Option.map_some, if_true, if_false, Bool.false_eq_true, retV_z, retV_s, addF_int, subF_int, ltF_int, leF_int, gtF_int, geF_int, eqF_int, neF_int, eqF_str, neF_str, andF_true, andF_false, orF_true, orF_false, isiF_list, isiF_str, isiF_int, isiF_bool, modF_lit, divF_lit, negF_int, notF_bool, asIntR_int, intF_bool, maxF_two, isF_int_none, isF_none_none, isF_list_none, itemF_tup0, itemF_tup1, methF_str, Nat.reduceLT, decide_true, decide_false, beq_self_eq_true, Bool.not_true, Bool.not_false, itemLv_int, itemLv_str, itemLv_list, itemLv_bool, itemLv_none, lvOf_strs, lvOf_ints, ne_eq, not_false_eq_true, not_true_eq_false, lenF_map _ _ hlb, rngF_nat _ hl]; rfl)]
  have hd : dropL [] [some (D.list (ws.map .str), 0), some (.int w, 2), none] = [some (.list (ws.map .str), 0), some (.int w, 2), none] := rfl
  rw [hd]
  rcases loopF_find (fB := b_long_word_1) (ix := 2) (fun (i : Nat) => D.int (i : Int)) (fun v => [some (.list (ws.map .str), 0), some (.int w, 2), v]) (fun i => decide (w < ((ws.getD i []).length : Int))) (fun i => (.int (i : Int), 2)) (fun _ _ => rfl) (List.range ws.length) none (by
    intro i hi
    have hi := List.mem_range.mp hi
    have hx : ws[i]? = some (ws.getD i []) := by simp [List.getElem?_eq_getElem hi]
    have hlen := lenF_str _ (hw _ (List.mem_of_getElem? hx))
    constructor
    · intro hp
      simp only [getV_s, getV_z, bindR_ok, bindR_exc, bindE_ok, bindE_exc, bindO_next, bindO_ret, bindO_exc, bindO_raise, bindO_brk, bindO_cont, setV_int, setV_str, setV_bool, setV_none, setV_list2, List.set_cons_succ, List.set_cons_zero, truthD_bool, Option.map_some, if_true, if_false, Bool.false_eq_true, retV_z, retV_s, addF_int, subF_int, ltF_int, leF_int, gtF_int, geF_int, eqF_int, neF_int, eqF_str, neF_str, andF_true, andF_false, orF_true, orF_false, isiF_list, isiF_str, isiF_int, isiF_bool, modF_lit, divF_lit, negF_int, notF_bool, asIntR_int, intF_bool, maxF_two, isF_int_none, isF_none_none, isF_list_none, itemF_tup0, itemF_tup1, methF_str, Nat.reduceLT, decide_true, decide_false, beq_self_eq_true, Bool.not_true, Bool.not_false, itemLv_int, itemLv_str, itemLv_list, itemLv_bool, itemLv_none, lvOf_strs, lvOf_ints, ne_eq, not_false_eq_true, not_true_eq_false, b_long_word_1, itemF_at D.str ws i _ hx hlb, hlen, hp]
    · intro hp
      exact ⟨_, by simp only [getV_s, getV_z, bindR_ok, bindR_exc, bindE_ok, bindE_exc, bindO_next, bindO_ret, bindO_exc, bindO_raise, bindO_brk, bindO_cont, setV_int, setV_str, setV_bool, setV_none, setV_list2, List.set_cons_succ, List.set_cons_zero, truthD_bool, Option.map_some, if_true, if_false, Bool.false_eq_true, retV_z, retV_s, addF_int, subF_int, ltF_int, leF_int, gtF_int, geF_int, eqF_int, neF_int, eqF_str, neF_str, andF_true, andF_false, orF_true, orF_false, isiF_list, isiF_str, isiF_int, isiF_bool, modF_lit, divF_lit, negF_int, notF_bool, asIntR_int, intF_bool, maxF_two, isF_int_none, isF_none_none, isF_list_none, itemF_tup0, itemF_tup1, methF_str, Nat.reduceLT, decide_true, decide_false, beq_self_eq_true, Bool.not_true, Bool.not_false, itemLv_int, itemLv_str, itemLv_list, itemLv_bool, itemLv_none, lvOf_strs, lvOf_ints, ne_eq, not_false_eq_true, not_true_eq_false, b_long_word_1, itemF_at D.str ws i _ hx hlb, hlen, hp]; rfl⟩) with ⟨h1, v, e⟩ | ⟨i, h1, e⟩
  · rw [e]
    simp only [getV_s, getV_z, bindR_ok, bindR_exc, bindE_ok, bindE_exc, bindO_next, bindO_ret, bindO_exc, bindO_raise, bindO_brk, bindO_cont, setV_int, setV_str, setV_bool, setV_none, setV_list2, List.set_cons_succ, List.set_cons_zero, truthD_bool, Option.map_some, if_true, if_false, Bool.false_eq_true, retV_z, retV_s, addF_int, subF_int, ltF_int, leF_int, gtF_int, geF_int, eqF_int, neF_int, eqF_str, neF_str, andF_true, andF_false, orF_true, orF_false, isiF_list, isiF_str, isiF_int, isiF_bool, modF_lit, divF_lit, negF_int, notF_bool, asIntR_int, intF_bool, maxF_two, isF_int_none, isF_none_none, isF_list_none, itemF_tup0, itemF_tup1, methF_str, Nat.reduceLT, decide_true, decide_false, beq_self_eq_true, Bool.not_true, Bool.not_false, itemLv_int, itemLv_str, itemLv_list, itemLv_bool, itemLv_none, lvOf_strs, lvOf_ints, ne_eq, not_false_eq_true, not_true_eq_false, s_long_word_3, longAt, h1]
    rfl
  · rw [e]
    simp only [getV_s, getV_z, bindR_ok, bindR_exc, bindE_ok, bindE_exc, bindO_next, bindO_ret, bindO_exc, bindO_raise, bindO_brk, bindO_cont, setV_int, setV_str, setV_bool, setV_none, setV_list2, List.set_cons_succ, List.set_cons_zero, truthD_bool, Option.map_some, if_true, if_false, Bool.false_eq_true, retV_z, retV_s, addF_int, subF_int, ltF_int, leF_int, gtF_int, geF_int, eqF_int, neF_int, eqF_str, neF_str, andF_true, andF_false, orF_true, orF_false, isiF_list, isiF_str, isiF_int, isiF_bool, modF_lit, divF_lit, negF_int, notF_bool, asIntR_int, intF_bool, maxF_two, isF_int_none, isF_none_none, isF_list_none, itemF_tup0, itemF_tup1, methF_str, Nat.reduceLT, decide_true, decide_false, beq_self_eq_true, Bool.not_true, Bool.not_false, itemLv_int, itemLv_str, itemLv_list, itemLv_bool, itemLv_none, lvOf_strs, lvOf_ints, ne_eq, not_false_eq_true, not_true_eq_false, longAt, h1]
    rfl
theorem are_starts_ok (ws : List (List Nat)) (ss : List Int) (hw : ws.length ≤ lim) (hs : ss.length ≤ lim) : F_are_starts [.list (ws.map .str), .list (ss.map .int)] = some (.ok (.bool (goodS ss ws.length), 2)) := by
  have hg : argG 1 [.list (ws.map D.str), .list (ss.map D.int)] = [some (.list (ws.map .str), 0), some (.list (ss.map .int), 0), none] := rfl
  have hwb : ws.length ≤ big := by unfold lim at hw; first | exact le_big (by assumption) | exact le_big6 (by assumption) | (unfold big; omega)
  have hsb : ss.length ≤ big := by unfold lim at hs; first | exact le_big (by assumption) | exact le_big6 (by assumption) | (unfold big; omega)
  have hc := compF_src (fE := e_are_starts_1) (cap := []) (Γ := [some (.list (ws.map .str), 0), some (.list (ss.map .int), 0), none]) D.int (fun _ => .bool true) ss (fun a _ => ⟨2, by simp only [getV_s, getV_z, bindR_ok, bindR_exc, bindE_ok, bindE_exc, bindO_next, bindO_ret, bindO_exc, bindO_raise, bindO_brk, bindO_cont, setV_int, setV_str, setV_bool, setV_none, setV_list2, List.set_cons_succ, List.set_cons_zero, truthD_bool, Option.map_some, if_true, if_false, Bool.false_eq_true, retV_z, retV_s, addF_int, subF_int, ltF_int, leF_int, gtF_int, geF_int, eqF_int, neF_int, eqF_str, neF_str, andF_true, andF_false, orF_true, orF_false, isiF_list, isiF_str, isiF_int, isiF_bool, modF_lit, divF_lit, negF_int, notF_bool, asIntR_int, intF_bool, maxF_two, isF_int_none, isF_none_none, isF_list_none, itemF_tup0, itemF_tup1, methF_str, Nat.reduceLT, decide_true, decide_false, beq_self_eq_true, Bool.not_true, Bool.not_false, itemLv_int, itemLv_str, itemLv_list, itemLv_bool, itemLv_none, lvOf_strs, lvOf_ints, ne_eq, not_false_eq_true, not_true_eq_false, e_are_starts_1, compG]⟩)
  have hm : ss.map (fun _ => D.bool true) = (ss.map fun _ => true).map .bool := by simp
  have ha : (ss.map fun _ => true).all id = true := by simp
  rw [hm] at hc
  unfold F_are_starts
  rw [fnF_of (by rfl), hg]
  unfold f_are_starts
  simp only [getV_s, getV_z, bindR_ok, bindR_exc, bindE_ok, bindE_exc, bindO_next, bindO_ret, bindO_exc, bindO_raise, bindO_brk, bindO_cont, setV_int, setV_str, setV_bool, setV_none, setV_list2, List.set_cons_succ, List.set_cons_zero, truthD_bool, Option.map_some, if_true, if_false, Bool.false_eq_true, retV_z, retV_s, addF_int, subF_int, ltF_int, leF_int, gtF_int, geF_int, eqF_int, neF_int, eqF_str, neF_str, andF_true, andF_false, orF_true, orF_false, isiF_list, isiF_str, isiF_int, isiF_bool, modF_lit, divF_lit, negF_int, notF_bool, asIntR_int, intF_bool, maxF_two, isF_int_none, isF_none_none, isF_list_none, itemF_tup0, itemF_tup1, methF_str, Nat.reduceLT, decide_true, decide_false, beq_self_eq_true, Bool.not_true, Bool.not_false, itemLv_int, itemLv_str, itemLv_list, itemLv_bool, itemLv_none, lvOf_strs, lvOf_ints, ne_eq, not_false_eq_true, not_true_eq_false, s_are_starts_1, s_are_starts_2, itF_map _ _ _ hs, hc, allF_bools, ha]
  by_cases h1 : ws = []
  · subst h1
    by_cases h2 : ss = []
    · subst h2
      simp only [getV_s, getV_z, bindR_ok, bindR_exc, bindE_ok, bindE_exc, bindO_next, bindO_ret, bindO_exc, bindO_raise, bindO_brk, bindO_cont, setV_int, setV_str, setV_bool, setV_none, setV_list2, List.set_cons_succ, List.set_cons_zero, truthD_bool, Option.map_some, if_true, if_false, Bool.false_eq_true, retV_z, retV_s, addF_int, subF_int, ltF_int, leF_int, gtF_int, geF_int, eqF_int, neF_int, eqF_str, neF_str, andF_true, andF_false, orF_true, orF_false, isiF_list, isiF_str, isiF_int, isiF_bool, modF_lit, divF_lit, negF_int, notF_bool, asIntR_int, intF_bool, maxF_two, isF_int_none, isF_none_none, isF_list_none, itemF_tup0, itemF_tup1, methF_str, Nat.reduceLT, decide_true, decide_false, beq_self_eq_true, Bool.not_true, Bool.not_false, itemLv_int, itemLv_str, itemLv_list, itemLv_bool, itemLv_none, lvOf_strs, lvOf_ints, ne_eq, not_false_eq_true, not_true_eq_false, s_are_starts_3, listF_nil, eqF_strs_nil, eqF_ints_nil]
      rfl
    · have := goodS_zero h2
      simp only [getV_s, getV_z, bindR_ok, bindR_exc, bindE_ok, bindE_exc, bindO_next, bindO_ret, bindO_exc, bindO_raise, bindO_brk, bindO_cont, setV_int, setV_str, setV_bool, setV_none, setV_list2, List.set_cons_succ, List.set_cons_zero, truthD_bool, Option.map_some, if_true, if_false, Bool.false_eq_true, retV_z, retV_s, addF_int, subF_int, ltF_int, leF_int, gtF_int, geF_int, eqF_int, neF_int, eqF_str, neF_str, andF_true, andF_false, orF_true, orF_false, isiF_list, isiF_str, isiF_int, isiF_bool, modF_lit, divF_lit, negF_int, notF_bool, asIntR_int, intF_bool, maxF_two, isF_int_none, isF_none_none, isF_list_none, itemF_tup0, itemF_tup1, methF_str, Nat.reduceLT, decide_true, decide_false, beq_self_eq_true, Bool.not_true, Bool.not_false, itemLv_int, itemLv_str, itemLv_list, itemLv_bool, itemLv_none, lvOf_strs, lvOf_ints, ne_eq, not_false_eq_true, not_true_eq_false, s_are_starts_3, listF_nil, eqF_strs_nil, eqF_ints_nil, h2, List.length_nil, this]
      rfl
  · by_cases h2 : ss = []
    · subst h2
      have : (ws.length == 0) = false := by simpa using h1
      simp only [getV_s, getV_z, bindR_ok, bindR_exc, bindE_ok, bindE_exc, bindO_next, bindO_ret, bindO_exc, bindO_raise, bindO_brk, bindO_cont, setV_int, setV_str, setV_bool, setV_none, setV_list2, List.set_cons_succ, List.set_cons_zero, truthD_bool, Option.map_some, if_true, if_false, Bool.false_eq_true, retV_z, retV_s, addF_int, subF_int, ltF_int, leF_int, gtF_int, geF_int, eqF_int, neF_int, eqF_str, neF_str, andF_true, andF_false, orF_true, orF_false, isiF_list, isiF_str, isiF_int, isiF_bool, modF_lit, divF_lit, negF_int, notF_bool, asIntR_int, intF_bool, maxF_two, isF_int_none, isF_none_none, isF_list_none, itemF_tup0, itemF_tup1, methF_str, Nat.reduceLT, decide_true, decide_false, beq_self_eq_true, Bool.not_true, Bool.not_false, itemLv_int, itemLv_str, itemLv_list, itemLv_bool, itemLv_none, lvOf_strs, lvOf_ints, ne_eq, not_false_eq_true, not_true_eq_false, s_are_starts_3, listF_nil, eqF_strs_nil, eqF_ints_nil, h1, goodS, this]
      rfl
    · have hp : 0 < ss.length := List.length_pos_iff.mpr h2
      simp only [getV_s, getV_z, bindR_ok, bindR_exc, bindE_ok, bindE_exc, bindO_next, bindO_ret, bindO_exc, bindO_raise, bindO_brk, bindO_cont, setV_int, setV_str, setV_bool, setV_none, setV_list2, List.set_cons_succ, List.set_cons_zero, truthD_bool, Option.map_some, if_true, if_false, Bool.false_eq_true, retV_z, retV_s, addF_int, subF_int, ltF_int, leF_int, gtF_int, geF_int, eqF_int, neF_int, eqF_str, neF_str, andF_true, andF_false, orF_true, orF_false, isiF_list, isiF_str, isiF_int, isiF_bool, modF_lit, divF_lit, negF_int, notF_bool, asIntR_int, intF_bool, maxF_two, isF_int_none, isF_none_none, isF_list_none, itemF_tup0, itemF_tup1, methF_str, Nat.reduceLT, decide_true, decide_false, beq_self_eq_true, Bool.not_true, Bool.not_false, itemLv_int, itemLv_str, itemLv_list, itemLv_bool, itemLv_none, lvOf_strs, lvOf_ints, ne_eq, not_false_eq_true, not_true_eq_false, s_are_starts_3, listF_nil, eqF_strs_nil, eqF_ints_nil, h1, h2]
      unfold s_are_starts_4
      have hr : rngF [.int 1, .int (ss.length : Int)] = _ := rngF_two 1 ss.length (by omega) hs
      rw [forF_of (by simp only [getV_s, getV_z, bindR_ok, bindR_exc, bindE_ok, bindE_exc, bindO_next, bindO_ret, bindO_exc, bindO_raise, bindO_brk, bindO_cont, setV_int, setV_str, setV_bool, setV_none, setV_list2, List.set_cons_succ, List.set_cons_zero, truthD_bool, Option.map_some, if_true, if_false, Bool.false_eq_true, retV_z, retV_s, addF_int, subF_int, ltF_int, leF_int, gtF_int, geF_int, eqF_int, neF_int, eqF_str, neF_str, andF_true, andF_false, orF_true, orF_false, isiF_list, isiF_str, isiF_int, isiF_bool, modF_lit, divF_lit, negF_int, notF_bool, asIntR_int, intF_bool, maxF_two, isF_int_none, isF_none_none, isF_list_none, itemF_tup0, itemF_tup1, methF_str, Nat.reduceLT, decide_true, decide_false, beq_self_eq_true, Bool.not_true, Bool.not_false, itemLv_int, itemLv_str, itemLv_list, itemLv_bool, itemLv_none, lvOf_strs, lvOf_ints, ne_eq, not_false_eq_true, not_true_eq_false, lenF_map _ _ hsb, hr]; rfl)]
      have hd : dropL [] [some (D.list (ws.map .str), 0), some (.list (ss.map .int), 0), none] = [some (D.list (ws.map .str), 0), some (.list (ss.map .int), 0), none] := rfl
      rw [hd]
      rcases loopF_find (fB := b_are_starts_1) (ix := 2) (fun (i : Nat) => D.int ((1 + i : Nat) : Int)) (fun v => [some (.list (ws.map .str), 0), some (.list (ss.map .int), 0), v]) (fun i => decide (ss.getD (1 + i) 0 ≤ ss.getD i 0)) (fun _ => (.bool false, 2)) (fun _ _ => rfl) (List.range (ss.length - 1)) none (by
        intro i hi
        have hi := List.mem_range.mp hi
        have x1 := itemF_at D.int ss (1 + i) _ (getD_some 0 (show 1 + i < ss.length by omega)) hsb
        have x2 := itemF_at D.int ss i _ (getD_some 0 (show i < ss.length by omega)) hsb
        have x3 : ((1 + i : Nat) : Int) - 1 = (i : Int) := by omega
        constructor
        · intro hp
          simp only [getV_s, getV_z, bindR_ok, bindR_exc, bindE_ok, bindE_exc, bindO_next, bindO_ret, bindO_exc, bindO_raise, bindO_brk, bindO_cont, setV_int, setV_str, setV_bool, setV_none, setV_list2, List.set_cons_succ, List.set_cons_zero, truthD_bool, Option.map_some, if_true, if_false, Bool.false_eq_true, retV_z, retV_s, addF_int, subF_int, ltF_int, leF_int, gtF_int, geF_int, eqF_int, neF_int, eqF_str, neF_str, andF_true, andF_false, orF_true, orF_false, isiF_list, isiF_str, isiF_int, isiF_bool, modF_lit, divF_lit, negF_int, notF_bool, asIntR_int, intF_bool, maxF_two, isF_int_none, isF_none_none, isF_list_none, itemF_tup0, itemF_tup1, methF_str, Nat.reduceLT, decide_true, decide_false, beq_self_eq_true, Bool.not_true, Bool.not_false, itemLv_int, itemLv_str, itemLv_list, itemLv_bool, itemLv_none, lvOf_strs, lvOf_ints, ne_eq, not_false_eq_true, not_true_eq_false, b_are_starts_1, x1, x3, x2, hp]
        · intro hp
          exact ⟨_, by simp only [getV_s, getV_z, bindR_ok, bindR_exc, bindE_ok, bindE_exc, bindO_next, bindO_ret, bindO_exc, bindO_raise, bindO_brk, bindO_cont, setV_int, setV_str, setV_bool, setV_none, setV_list2, List.set_cons_succ, List.set_cons_zero, truthD_bool, Option.map_some, if_true, if_false, Bool.false_eq_true, retV_z, retV_s, addF_int, subF_int, ltF_int, leF_int, gtF_int, geF_int, eqF_int, neF_int, eqF_str, neF_str, andF_true, andF_false, orF_true, orF_false, isiF_list, isiF_str, isiF_int, isiF_bool, modF_lit, divF_lit, negF_int, notF_bool, asIntR_int, intF_bool, maxF_two, isF_int_none, isF_none_none, isF_list_none, itemF_tup0, itemF_tup1, methF_str, Nat.reduceLT, decide_true, decide_false, beq_self_eq_true, Bool.not_true, Bool.not_false, itemLv_int, itemLv_str, itemLv_list, itemLv_bool, itemLv_none, lvOf_strs, lvOf_ints, ne_eq, not_false_eq_true, not_true_eq_false, b_are_starts_1, x1, x3, x2, hp]; rfl⟩) with ⟨h3, v, e⟩ | ⟨i, h3, e⟩
      · rw [e]
        have x0 : itemF [.list (ss.map .int), .int 0] = _ := itemF_at D.int ss 0 _ (getD_some 0 hp) hsb
        have xl := itemF_last (ss.map D.int) (.int (ss.getLast?.getD 0)) (by rw [List.getLast?_map, getElem?_getD_some 0 h2]; rfl) (by rw [List.length_map]; exact hsb)
        have hds : descAt ss = none := h3
        unfold goodS
        rw [if_neg h2, hds]
        cases h4 : (ss.getD 0 0 == 0)
        · simp only [getV_s, getV_z, bindR_ok, bindR_exc, bindE_ok, bindE_exc, bindO_next, bindO_ret, bindO_exc, bindO_raise, bindO_brk, bindO_cont, setV_int, setV_str, setV_bool, setV_none, setV_list2, List.set_cons_succ, List.set_cons_zero, truthD_bool, Option.map_some, if_true, if_false, Bool.false_eq_true, retV_z, retV_s, addF_int, subF_int, ltF_int, leF_int, gtF_int, geF_int, eqF_int, neF_int, eqF_str, neF_str, andF_true, andF_false, orF_true, orF_false, isiF_list, isiF_str, isiF_int, isiF_bool, modF_lit, divF_lit, negF_int, notF_bool, asIntR_int, intF_bool, maxF_two, isF_int_none, isF_none_none, isF_list_none, itemF_tup0, itemF_tup1, methF_str, Nat.reduceLT, decide_true, decide_false, beq_self_eq_true, Bool.not_true, Bool.not_false, itemLv_int, itemLv_str, itemLv_list, itemLv_bool, itemLv_none, lvOf_strs, lvOf_ints, ne_eq, not_false_eq_true, not_true_eq_false, s_are_starts_5, x0, h4]
          rfl
        · simp only [getV_s, getV_z, bindR_ok, bindR_exc, bindE_ok, bindE_exc, bindO_next, bindO_ret, bindO_exc, bindO_raise, bindO_brk, bindO_cont, setV_int, setV_str, setV_bool, setV_none, setV_list2, List.set_cons_succ, List.set_cons_zero, truthD_bool, Option.map_some, if_true, if_false, Bool.false_eq_true, retV_z, retV_s, addF_int, subF_int, ltF_int, leF_int, gtF_int, geF_int, eqF_int, neF_int, eqF_str, neF_str, andF_true, andF_false, orF_true, orF_false, isiF_list, isiF_str, isiF_int, isiF_bool, modF_lit, divF_lit, negF_int, notF_bool, asIntR_int, intF_bool, maxF_two, isF_int_none, isF_none_none, isF_list_none, itemF_tup0, itemF_tup1, methF_str, Nat.reduceLT, decide_true, decide_false, beq_self_eq_true, Bool.not_true, Bool.not_false, itemLv_int, itemLv_str, itemLv_list, itemLv_bool, itemLv_none, lvOf_strs, lvOf_ints, ne_eq, not_false_eq_true, not_true_eq_false, s_are_starts_5, x0, h4, xl, lenF_map _ _ hwb]
          simp [outF]
      · rw [e]
        have hds : descAt ss = some i := h3
        unfold goodS
        rw [if_neg h2, hds]
        simp only [getV_s, getV_z, bindR_ok, bindR_exc, bindE_ok, bindE_exc, bindO_next, bindO_ret, bindO_exc, bindO_raise, bindO_brk, bindO_cont, setV_int, setV_str, setV_bool, setV_none, setV_list2, List.set_cons_succ, List.set_cons_zero, truthD_bool, Option.map_some, if_true, if_false, Bool.false_eq_true, retV_z, retV_s, addF_int, subF_int, ltF_int, leF_int, gtF_int, geF_int, eqF_int, neF_int, eqF_str, neF_str, andF_true, andF_false, orF_true, orF_false, isiF_list, isiF_str, isiF_int, isiF_bool, modF_lit, divF_lit, negF_int, notF_bool, asIntR_int, intF_bool, maxF_two, isF_int_none, isF_none_none, isF_list_none, itemF_tup0, itemF_tup1, methF_str, Nat.reduceLT, decide_true, decide_false, beq_self_eq_true, Bool.not_true, Bool.not_false, itemLv_int, itemLv_str, itemLv_list, itemLv_bool, itemLv_none, lvOf_strs, lvOf_ints, ne_eq, not_false_eq_true, not_true_eq_false]
        simp [outF]
theorem need_starts_ok (ws : List (List Nat)) (ss : List Int) (hw : ws.length ≤ lim) (hs : ss.length ≤ lim) : F_need_starts [.list (ws.map .str), .list (ss.map .int)] = if goodS ss ws.length then some (.ok (.none, 2)) else some (.exc "NoStarts") := by
  have hg : argG 0 [.list (ws.map D.str), .list (ss.map D.int)] = [some (.list (ws.map .str), 0), some (.list (ss.map .int), 0)] := rfl
  unfold F_need_starts
  rw [fnF_of (by rfl), hg]
  unfold f_need_starts
  cases h : goodS ss ws.length
  · simp only [getV_s, getV_z, bindR_ok, bindR_exc, bindE_ok, bindE_exc, bindO_next, bindO_ret, bindO_exc, bindO_raise, bindO_brk, bindO_cont, setV_int, setV_str, setV_bool, setV_none, setV_list2, List.set_cons_succ, List.set_cons_zero, truthD_bool, Option.map_some, if_true, if_false, Bool.false_eq_true, retV_z, retV_s, addF_int, subF_int, ltF_int, leF_int, gtF_int, geF_int, eqF_int, neF_int, eqF_str, neF_str, andF_true, andF_false, orF_true, orF_false, isiF_list, isiF_str, isiF_int, isiF_bool, modF_lit, divF_lit, negF_int, notF_bool, asIntR_int, intF_bool, maxF_two, isF_int_none, isF_none_none, isF_list_none, itemF_tup0, itemF_tup1, methF_str, Nat.reduceLT, decide_true, decide_false, beq_self_eq_true, Bool.not_true, Bool.not_false, itemLv_int, itemLv_str, itemLv_list, itemLv_bool, itemLv_none, lvOf_strs, lvOf_ints, ne_eq, not_false_eq_true, not_true_eq_false, s_need_starts_1, are_starts_ok ws ss hw hs, h]
    rfl
  · simp only [getV_s, getV_z, bindR_ok, bindR_exc, bindE_ok, bindE_exc, bindO_next, bindO_ret, bindO_exc, bindO_raise, bindO_brk, bindO_cont, setV_int, setV_str, setV_bool, setV_none, setV_list2, List.set_cons_succ, List.set_cons_zero, truthD_bool, Option.map_some, if_true, if_false, Bool.false_eq_true, retV_z, retV_s, addF_int, subF_int, ltF_int, leF_int, gtF_int, geF_int, eqF_int, neF_int, eqF_str, neF_str, andF_true, andF_false, orF_true, orF_false, isiF_list, isiF_str, isiF_int, isiF_bool, modF_lit, divF_lit, negF_int, notF_bool, asIntR_int, intF_bool, maxF_two, isF_int_none, isF_none_none, isF_list_none, itemF_tup0, itemF_tup1, methF_str, Nat.reduceLT, decide_true, decide_false, beq_self_eq_true, Bool.not_true, Bool.not_false, itemLv_int, itemLv_str, itemLv_list, itemLv_bool, itemLv_none, lvOf_strs, lvOf_ints, ne_eq, not_false_eq_true, not_true_eq_false, s_need_starts_1, are_starts_ok ws ss hw hs, h]
    rfl
theorem bounds_of_ok (ws : List (List Nat)) (ss : List Int) (hw : ws.length ≤ 1000000) (hs : ss.length ≤ 1000000) : F_bounds_of [.list (ws.map .str), .list (ss.map .int)] = some (.ok (.list ((List.range ss.length).map fun k => .tup [.int (ss.getD k 0), .int ((endsS ss ws.length).getD k 0)]), lvOf ((List.range ss.length).map fun k => .tup [.int (ss.getD k 0), .int ((endsS ss ws.length).getD k 0)]))) := by
  have hg : argG 1 [.list (ws.map D.str), .list (ss.map D.int)] = [some (.list (ws.map .str), 0), some (.list (ss.map .int), 0), none] := rfl
  have hwb : ws.length ≤ big := by first | exact le_big (by assumption) | exact le_big6 (by assumption) | (unfold big; omega)
  have hsb : ss.length ≤ big := by first | exact le_big (by assumption) | exact le_big6 (by assumption) | (unfold big; omega)
  have hsl : ss.length ≤ lim := by first | exact le_lim (by assumption) | exact le_lim6 (by assumption) | (unfold lim; omega)
  have hel : (endsS ss ws.length).length ≤ big := by rw [endsS_len]; first | exact le_big (by assumption) | exact le_big6 (by assumption) | (unfold big; omega)
  have a1 := addF_ints1 (sliceL ss (some 1) none) (ws.length : Int) (by have := sliceL_len ss (some 1) none; first | exact le_lim (by assumption) | exact le_lim6 (by assumption) | (unfold lim; omega))
  have hc := compF_src (fE := e_bounds_of_1) (cap := [1, 2]) (Γ := [some (.list (ws.map .str), 0), some (.list (ss.map .int), 0), some (.list ((sliceL ss (some 1) none ++ [(ws.length : Int)]).map .int), 2)]) (fun (i : Nat) => D.int (i : Int)) (fun k => .tup [.int (ss.getD k 0), .int ((endsS ss ws.length).getD k 0)]) (List.range ss.length) (by
    intro i hi
    have hi := List.mem_range.mp hi
    have x1 := itemF_at D.int ss i _ (getD_some 0 hi) hsb
    have x2 : itemF [.list ((sliceL ss (some 1) none ++ [(ws.length : Int)]).map .int), .int (i : Int)] = _ := itemF_at D.int (endsS ss ws.length) i _ (getD_some 0 (by rw [endsS_len]; omega)) hel
    exact ⟨2, by simp only [getV_s, getV_z, bindR_ok, bindR_exc, bindE_ok, bindE_exc, bindO_next, bindO_ret, bindO_exc, bindO_raise, bindO_brk, bindO_cont, setV_int, setV_str, setV_bool, setV_none, setV_list2, List.set_cons_succ, List.set_cons_zero, truthD_bool, Option.map_some, if_true, if_false, Bool.false_eq_true, retV_z, retV_s, addF_int, subF_int, ltF_int, leF_int, gtF_int, geF_int, eqF_int, neF_int, eqF_str, neF_str, andF_true, andF_false, orF_true, orF_false, isiF_list, isiF_str, isiF_int, isiF_bool, modF_lit, divF_lit, negF_int, notF_bool, asIntR_int, intF_bool, maxF_two, isF_int_none, isF_none_none, isF_list_none, itemF_tup0, itemF_tup1, methF_str, Nat.reduceLT, decide_true, decide_false, beq_self_eq_true, Bool.not_true, Bool.not_false, itemLv_int, itemLv_str, itemLv_list, itemLv_bool, itemLv_none, lvOf_strs, lvOf_ints, ne_eq, not_false_eq_true, not_true_eq_false, e_bounds_of_1, compG, List.map_cons, List.map_nil, List.getElem?_cons_zero, List.getElem?_cons_succ, Option.join_some, x1, x2, tupF_ints]⟩)
  unfold F_bounds_of
  rw [fnF_of (by rfl), hg]
  unfold f_bounds_of
  simp only [getV_s, getV_z, bindR_ok, bindR_exc, bindE_ok, bindE_exc, bindO_next, bindO_ret, bindO_exc, bindO_raise, bindO_brk, bindO_cont, setV_int, setV_str, setV_bool, setV_none, setV_list2, List.set_cons_succ, List.set_cons_zero, truthD_bool, Option.map_some, if_true, if_false, Bool.false_eq_true, retV_z, retV_s, addF_int, subF_int, ltF_int, leF_int, gtF_int, geF_int, eqF_int, neF_int, eqF_str, neF_str, andF_true, andF_false, orF_true, orF_false, isiF_list, isiF_str, isiF_int, isiF_bool, modF_lit, divF_lit, negF_int, notF_bool, asIntR_int, intF_bool, maxF_two, isF_int_none, isF_none_none, isF_list_none, itemF_tup0, itemF_tup1, methF_str, Nat.reduceLT, decide_true, decide_false, beq_self_eq_true, Bool.not_true, Bool.not_false, itemLv_int, itemLv_str, itemLv_list, itemLv_bool, itemLv_none, lvOf_strs, lvOf_ints, ne_eq, not_false_eq_true, not_true_eq_false, s_bounds_of_1, sliceF_ints _ _ _ hsl, lenF_map _ _ hwb, listF_int, a1, s_bounds_of_2, lenF_map _ _ hsb, rngF_nat _ hsl, hc]
  rfl
theorem lines_of_ok (ws : List (List Nat)) (ss : List Int) (hl : ws.length ≤ 90000) (hw : (ws.map List.length).sum ≤ 3000000) (hs : ss.length ≤ 1000000) : F_lines_of [.list (ws.map .str), .list (ss.map .int)] = if goodS ss ws.length then some (.ok (.list ((linesS ws ss).map .str), 2)) else some (.exc "NoStarts") := by
  have hg : argG 0 [.list (ws.map D.str), .list (ss.map D.int)] = [some (.list (ws.map .str), 0), some (.list (ss.map .int), 0)] := rfl
  have hwl : ws.length ≤ lim := by first | exact le_lim (by assumption) | exact le_lim6 (by assumption) | (unfold lim; omega)
  have hsl : ss.length ≤ lim := by first | exact le_lim (by assumption) | exact le_lim6 (by assumption) | (unfold lim; omega)
  have hn := need_starts_ok ws ss hwl hsl
  unfold F_lines_of
  rw [fnF_of (by rfl), hg]
  unfold f_lines_of
  cases h : goodS ss ws.length
  · rw [h] at hn
    simp only [getV_s, getV_z, bindR_ok, bindR_exc, bindE_ok, bindE_exc, bindO_next, bindO_ret, bindO_exc, bindO_raise, bindO_brk, bindO_cont, setV_int, setV_str, setV_bool, setV_none, setV_list2, List.set_cons_succ, List.set_cons_zero, truthD_bool, Option.map_some, if_true, if_false, Bool.false_eq_true, retV_z, retV_s, addF_int, subF_int, ltF_int, leF_int, gtF_int, geF_int, eqF_int, neF_int, eqF_str, neF_str, andF_true, andF_false, orF_true, orF_false, isiF_list, isiF_str, isiF_int, isiF_bool, modF_lit, divF_lit, negF_int, notF_bool, asIntR_int, intF_bool, maxF_two, isF_int_none, isF_none_none, isF_list_none, itemF_tup0, itemF_tup1, methF_str, Nat.reduceLT, decide_true, decide_false, beq_self_eq_true, Bool.not_true, Bool.not_false, itemLv_int, itemLv_str, itemLv_list, itemLv_bool, itemLv_none, lvOf_strs, lvOf_ints, ne_eq, not_false_eq_true, not_true_eq_false, s_lines_of_1, hn]
    rfl
  · rw [h] at hn
    have hc := compF_src (fE := e_lines_of_1) (cap := [0]) (Γ := [some (.list (ws.map .str), 0), some (.list (ss.map .int), 0)]) (fun (k : Nat) => D.tup [.int (ss.getD k 0), .int ((endsS ss ws.length).getD k 0)]) (fun k => .str (joinN [32] (sliceL ws (some (ss.getD k 0)) (some ((endsS ss ws.length).getD k 0))))) (List.range ss.length) (by
      intro i hi
      exact ⟨2, by simp only [getV_s, getV_z, bindR_ok, bindR_exc, bindE_ok, bindE_exc, bindO_next, bindO_ret, bindO_exc, bindO_raise, bindO_brk, bindO_cont, setV_int, setV_str, setV_bool, setV_none, setV_list2, List.set_cons_succ, List.set_cons_zero, truthD_bool, Option.map_some, if_true, if_false, Bool.false_eq_true, retV_z, retV_s, addF_int, subF_int, ltF_int, leF_int, gtF_int, geF_int, eqF_int, neF_int, eqF_str, neF_str, andF_true, andF_false, orF_true, orF_false, isiF_list, isiF_str, isiF_int, isiF_bool, modF_lit, divF_lit, negF_int, notF_bool, asIntR_int, intF_bool, maxF_two, isF_int_none, isF_none_none, isF_list_none, itemF_tup0, itemF_tup1, methF_str, Nat.reduceLT, decide_true, decide_false, beq_self_eq_true, Bool.not_true, Bool.not_false, itemLv_int, itemLv_str, itemLv_list, itemLv_bool, itemLv_none, lvOf_strs, lvOf_ints, ne_eq, not_false_eq_true, not_true_eq_false, e_lines_of_1, compG, List.map_cons, List.map_nil, List.getElem?_cons_zero, Option.join_some, sliceF_strs _ _ _ hwl, joinF_strs _ _ (slice_totalS _ _ hl hw)]⟩)
    have hm : (List.range ss.length).map (fun k => D.str (joinN [32] (sliceL ws (some (ss.getD k 0)) (some ((endsS ss ws.length).getD k 0))))) = (linesS ws ss).map .str := by
      unfold linesS; rw [List.map_map]; rfl
    rw [hm, lvOf_strs] at hc
    have hit := itF_map (fun (k : Nat) => D.tup [.int (ss.getD k 0), .int ((endsS ss ws.length).getD k 0)]) (List.range ss.length) (lvOf ((List.range ss.length).map fun k => .tup [.int (ss.getD k 0), .int ((endsS ss ws.length).getD k 0)])) (by rw [List.length_range]; exact hsl)
    simp only [getV_s, getV_z, bindR_ok, bindR_exc, bindE_ok, bindE_exc, bindO_next, bindO_ret, bindO_exc, bindO_raise, bindO_brk, bindO_cont, setV_int, setV_str, setV_bool, setV_none, setV_list2, List.set_cons_succ, List.set_cons_zero, truthD_bool, Option.map_some, if_true, if_false, Bool.false_eq_true, retV_z, retV_s, addF_int, subF_int, ltF_int, leF_int, gtF_int, geF_int, eqF_int, neF_int, eqF_str, neF_str, andF_true, andF_false, orF_true, orF_false, isiF_list, isiF_str, isiF_int, isiF_bool, modF_lit, divF_lit, negF_int, notF_bool, asIntR_int, intF_bool, maxF_two, isF_int_none, isF_none_none, isF_list_none, itemF_tup0, itemF_tup1, methF_str, Nat.reduceLT, decide_true, decide_false, beq_self_eq_true, Bool.not_true, Bool.not_false, itemLv_int, itemLv_str, itemLv_list, itemLv_bool, itemLv_none, lvOf_strs, lvOf_ints, ne_eq, not_false_eq_true, not_true_eq_false, s_lines_of_1, hn, s_lines_of_2, bounds_of_ok ws ss (by omega) hs, hit, hc]
    rfl
theorem sizeI_ok (ws : List (List Nat)) (b e : Int) (hl : ws.length ≤ 90000) (hw : (ws.map List.length).sum ≤ 3000000) : F__law_size [.list (ws.map .str), .int b, .int e] = some (.ok (.int (szI ws b e : Nat), 2)) := by
  have ht : totalN [32] (sliceL ws (some b) (some e)) ≤ lim := slice_totalS _ _ hl hw
  have hb2 : (joinN [32] (sliceL ws (some b) (some e))).length ≤ big := by
    have : szI ws b e ≤ 3090000 := szI_leS b e hl hw
    unfold szI at this; first | exact le_big (by assumption) | exact le_big6 (by assumption) | (unfold big; omega)
  have hg : argG 0 [.list (ws.map D.str), .int b, .int e] = [some (.list (ws.map .str), 0), some (.int b, 2), some (.int e, 2)] := rfl
  unfold F__law_size
  rw [fnF_of (by rfl), hg]
  unfold f__law_size
  simp only [getV_s, getV_z, bindR_ok, bindR_exc, bindE_ok, bindE_exc, bindO_next, bindO_ret, bindO_exc, bindO_raise, bindO_brk, bindO_cont, setV_int, setV_str, setV_bool, setV_none, setV_list2, List.set_cons_succ, List.set_cons_zero, truthD_bool, Option.map_some, if_true, if_false, Bool.false_eq_true, retV_z, retV_s, addF_int, subF_int, ltF_int, leF_int, gtF_int, geF_int, eqF_int, neF_int, eqF_str, neF_str, andF_true, andF_false, orF_true, orF_false, isiF_list, isiF_str, isiF_int, isiF_bool, modF_lit, divF_lit, negF_int, notF_bool, asIntR_int, intF_bool, maxF_two, isF_int_none, isF_none_none, isF_list_none, itemF_tup0, itemF_tup1, methF_str, Nat.reduceLT, decide_true, decide_false, beq_self_eq_true, Bool.not_true, Bool.not_false, itemLv_int, itemLv_str, itemLv_list, itemLv_bool, itemLv_none, lvOf_strs, lvOf_ints, ne_eq, not_false_eq_true, not_true_eq_false, s__law_size_1, sliceF_strs _ _ _ (show ws.length ≤ lim by first | exact le_lim (by assumption) | exact le_lim6 (by assumption) | (unfold lim; omega)), joinF_strs _ _ ht, lenF_str _ hb2]
  rfl
theorem need_words_low (ws : List (List Nat)) (w : Int) (h : w < 1) : F_need_words [.list (ws.map .str), .int w] = some (.exc "NoWidth") := by
  have hg : argG 0 [.list (ws.map D.str), .int w] = [some (.list (ws.map .str), 0), some (.int w, 2)] := rfl
  unfold F_need_words
  rw [fnF_of (by rfl), hg]
  unfold f_need_words
  simp only [getV_s, getV_z, bindR_ok, bindR_exc, bindE_ok, bindE_exc, bindO_next, bindO_ret, bindO_exc, bindO_raise, bindO_brk, bindO_cont, setV_int, setV_str, setV_bool, setV_none, setV_list2, List.set_cons_succ, List.set_cons_zero, truthD_bool, Option.map_some, if_true, if_false, Bool.false_eq_true, retV_z, retV_s, addF_int, subF_int, ltF_int, leF_int, gtF_int, geF_int, eqF_int, neF_int, eqF_str, neF_str, andF_true, andF_false, orF_true, orF_false, isiF_list, isiF_str, isiF_int, isiF_bool, modF_lit, divF_lit, negF_int, notF_bool, asIntR_int, intF_bool, maxF_two, isF_int_none, isF_none_none, isF_list_none, itemF_tup0, itemF_tup1, methF_str, Nat.reduceLT, decide_true, decide_false, beq_self_eq_true, Bool.not_true, Bool.not_false, itemLv_int, itemLv_str, itemLv_list, itemLv_bool, itemLv_none, lvOf_strs, lvOf_ints, ne_eq, not_false_eq_true, not_true_eq_false, s_need_words_1, long_word_low ws w h]
  rfl
theorem need_words_long (ws : List (List Nat)) (w : Int) (h : 1 ≤ w) (hl : ws.length ≤ lim) (hw : ∀ w ∈ ws, w.length ≤ big) (hb : ¬ ∀ x ∈ ws, (x.length : Int) ≤ w) : F_need_words [.list (ws.map .str), .int w] = some (.exc "LongWord") := by
  have hg : argG 0 [.list (ws.map D.str), .int w] = [some (.list (ws.map .str), 0), some (.int w, 2)] := rfl
  have hlw := long_word_ok ws w h hl hw
  unfold F_need_words
  rw [fnF_of (by rfl), hg]
  unfold f_need_words
  cases hq : longAt ws w with
  | none => exact absurd (longAt_none.mp hq) hb
  | some i =>
    rw [hq] at hlw
    simp only [getV_s, getV_z, bindR_ok, bindR_exc, bindE_ok, bindE_exc, bindO_next, bindO_ret, bindO_exc, bindO_raise, bindO_brk, bindO_cont, setV_int, setV_str, setV_bool, setV_none, setV_list2, List.set_cons_succ, List.set_cons_zero, truthD_bool, Option.map_some, if_true, if_false, Bool.false_eq_true, retV_z, retV_s, addF_int, subF_int, ltF_int, leF_int, gtF_int, geF_int, eqF_int, neF_int, eqF_str, neF_str, andF_true, andF_false, orF_true, orF_false, isiF_list, isiF_str, isiF_int, isiF_bool, modF_lit, divF_lit, negF_int, notF_bool, asIntR_int, intF_bool, maxF_two, isF_int_none, isF_none_none, isF_list_none, itemF_tup0, itemF_tup1, methF_str, Nat.reduceLT, decide_true, decide_false, beq_self_eq_true, Bool.not_true, Bool.not_false, itemLv_int, itemLv_str, itemLv_list, itemLv_bool, itemLv_none, lvOf_strs, lvOf_ints, ne_eq, not_false_eq_true, not_true_eq_false, s_need_words_1, hlw, natD, isnF_int_none]
    rfl
theorem need_words_ok (ws : List (List Nat)) (w : Int) (h : 1 ≤ w) (hl : ws.length ≤ lim) (hw : ∀ w ∈ ws, w.length ≤ big) (hb : ∀ x ∈ ws, (x.length : Int) ≤ w) : F_need_words [.list (ws.map .str), .int w] = some (.ok (.none, 2)) := by
  have hg : argG 0 [.list (ws.map D.str), .int w] = [some (.list (ws.map .str), 0), some (.int w, 2)] := rfl
  have hlw := long_word_ok ws w h hl hw
  rw [longAt_none.mpr hb] at hlw
  unfold F_need_words
  rw [fnF_of (by rfl), hg]
  unfold f_need_words
  simp only [getV_s, getV_z, bindR_ok, bindR_exc, bindE_ok, bindE_exc, bindO_next, bindO_ret, bindO_exc, bindO_raise, bindO_brk, bindO_cont, setV_int, setV_str, setV_bool, setV_none, setV_list2, List.set_cons_succ, List.set_cons_zero, truthD_bool, Option.map_some, if_true, if_false, Bool.false_eq_true, retV_z, retV_s, addF_int, subF_int, ltF_int, leF_int, gtF_int, geF_int, eqF_int, neF_int, eqF_str, neF_str, andF_true, andF_false, orF_true, orF_false, isiF_list, isiF_str, isiF_int, isiF_bool, modF_lit, divF_lit, negF_int, notF_bool, asIntR_int, intF_bool, maxF_two, isF_int_none, isF_none_none, isF_list_none, itemF_tup0, itemF_tup1, methF_str, Nat.reduceLT, decide_true, decide_false, beq_self_eq_true, Bool.not_true, Bool.not_false, itemLv_int, itemLv_str, itemLv_list, itemLv_bool, itemLv_none, lvOf_strs, lvOf_ints, ne_eq, not_false_eq_true, not_true_eq_false, s_need_words_1, hlw, natD, isnF_none_none]
  rfl
theorem wholes_ok (ss : List Int) (hs : ss.length ≤ lim) : F__law_wholes [.list (ss.map .int)] = some (.ok (.bool true, 2)) := by
  have hg : argG 1 [.list (ss.map D.int)] = [some (.list (ss.map .int), 0), none] := rfl
  unfold F__law_wholes
  rw [fnF_of (by rfl), hg]
  unfold f__law_wholes
  simp only [getV_s, getV_z, bindR_ok, bindR_exc, bindE_ok, bindE_exc, bindO_next, bindO_ret, bindO_exc, bindO_raise, bindO_brk, bindO_cont, setV_int, setV_str, setV_bool, setV_none, setV_list2, List.set_cons_succ, List.set_cons_zero, truthD_bool, Option.map_some, if_true, if_false, Bool.false_eq_true, retV_z, retV_s, addF_int, subF_int, ltF_int, leF_int, gtF_int, geF_int, eqF_int, neF_int, eqF_str, neF_str, andF_true, andF_false, orF_true, orF_false, isiF_list, isiF_str, isiF_int, isiF_bool, modF_lit, divF_lit, negF_int, notF_bool, asIntR_int, intF_bool, maxF_two, isF_int_none, isF_none_none, isF_list_none, itemF_tup0, itemF_tup1, methF_str, Nat.reduceLT, decide_true, decide_false, beq_self_eq_true, Bool.not_true, Bool.not_false, itemLv_int, itemLv_str, itemLv_list, itemLv_bool, itemLv_none, lvOf_strs, lvOf_ints, ne_eq, not_false_eq_true, not_true_eq_false, s__law_wholes_1]
  unfold s__law_wholes_2
  rw [forF_of (by simp only [getV_s, getV_z, bindR_ok, bindR_exc, bindE_ok, bindE_exc, bindO_next, bindO_ret, bindO_exc, bindO_raise, bindO_brk, bindO_cont, setV_int, setV_str, setV_bool, setV_none, setV_list2, List.set_cons_succ, List.set_cons_zero, truthD_bool, Option.map_some, if_true, if_false, Bool.false_eq_true, retV_z, retV_s, addF_int, subF_int, ltF_int, leF_int, gtF_int, geF_int, eqF_int, neF_int, eqF_str, neF_str, andF_true, andF_false, orF_true, orF_false, isiF_list, isiF_str, isiF_int, isiF_bool, modF_lit, divF_lit, negF_int, notF_bool, asIntR_int, intF_bool, maxF_two, isF_int_none, isF_none_none, isF_list_none, itemF_tup0, itemF_tup1, methF_str, Nat.reduceLT, decide_true, decide_false, beq_self_eq_true, Bool.not_true, Bool.not_false, itemLv_int, itemLv_str, itemLv_list, itemLv_bool, itemLv_none, lvOf_strs, lvOf_ints, ne_eq, not_false_eq_true, not_true_eq_false, itF_map _ _ _ hs]; rfl)]
  have hd : dropL [0] [some (.list (ss.map .int), 0), none] = [some (.list (ss.map .int), 0), none] := rfl
  rw [hd]
  rcases loopF_find (fB := b__law_wholes_1) (ix := 1) D.int (fun v => [some (.list (ss.map .int), 0), v]) (fun _ => false) (fun _ => (.none, 2)) (fun _ _ => rfl) ss none (by
    intro i hi
    exact ⟨fun h => by (cases h), fun _ => ⟨_, by simp only [getV_s, getV_z, bindR_ok, bindR_exc, bindE_ok, bindE_exc, bindO_next, bindO_ret, bindO_exc, bindO_raise, bindO_brk, bindO_cont, setV_int, setV_str, setV_bool, setV_none, setV_list2, List.set_cons_succ, List.set_cons_zero, truthD_bool, Option.map_some, if_true, if_false, Bool.false_eq_true, retV_z, retV_s, addF_int, subF_int, ltF_int, leF_int, gtF_int, geF_int, eqF_int, neF_int, eqF_str, neF_str, andF_true, andF_false, orF_true, orF_false, isiF_list, isiF_str, isiF_int, isiF_bool, modF_lit, divF_lit, negF_int, notF_bool, asIntR_int, intF_bool, maxF_two, isF_int_none, isF_none_none, isF_list_none, itemF_tup0, itemF_tup1, methF_str, Nat.reduceLT, decide_true, decide_false, beq_self_eq_true, Bool.not_true, Bool.not_false, itemLv_int, itemLv_str, itemLv_list, itemLv_bool, itemLv_none, lvOf_strs, lvOf_ints, ne_eq, not_false_eq_true, not_true_eq_false, b__law_wholes_1, whole_ok]; rfl⟩⟩) with ⟨h1, v, e⟩ | ⟨i, h1, e⟩
  · rw [e]
    simp only [getV_s, getV_z, bindR_ok, bindR_exc, bindE_ok, bindE_exc, bindO_next, bindO_ret, bindO_exc, bindO_raise, bindO_brk, bindO_cont, setV_int, setV_str, setV_bool, setV_none, setV_list2, List.set_cons_succ, List.set_cons_zero, truthD_bool, Option.map_some, if_true, if_false, Bool.false_eq_true, retV_z, retV_s, addF_int, subF_int, ltF_int, leF_int, gtF_int, geF_int, eqF_int, neF_int, eqF_str, neF_str, andF_true, andF_false, orF_true, orF_false, isiF_list, isiF_str, isiF_int, isiF_bool, modF_lit, divF_lit, negF_int, notF_bool, asIntR_int, intF_bool, maxF_two, isF_int_none, isF_none_none, isF_list_none, itemF_tup0, itemF_tup1, methF_str, Nat.reduceLT, decide_true, decide_false, beq_self_eq_true, Bool.not_true, Bool.not_false, itemLv_int, itemLv_str, itemLv_list, itemLv_bool, itemLv_none, lvOf_strs, lvOf_ints, ne_eq, not_false_eq_true, not_true_eq_false, s__law_wholes_3]
    rfl
  · exact absurd (List.find?_some h1) Bool.false_ne_true
theorem law_are_starts_ok (ws : List (List Nat)) (w : Int) (ss : List Int) (hl : ws.length ≤ 90000) (hw : (ws.map List.length).sum ≤ 3000000) (hs : ss.length ≤ 1000000) (hv : validS ws w ss) : F__law_are_starts [.list (ws.map .str), .int w, .list (ss.map .int)] = some (.ok (.bool true, 2)) := by
  have hg : argG 2 [.list (ws.map D.str), .int w, .list (ss.map D.int)] = [some (.list (ws.map .str), 0), some (.int w, 2), some (.list (ss.map .int), 0), none, none] := rfl
  have hsl : ss.length ≤ lim := by first | exact le_lim (by assumption) | exact le_lim6 (by assumption) | (unfold lim; omega)
  have hsb : ss.length ≤ big := by first | exact le_big (by assumption) | exact le_big6 (by assumption) | (unfold big; omega)
  have hlb : ws.length ≤ big := by first | exact le_big (by assumption) | exact le_big6 (by assumption) | (unfold big; omega)
  have a6 := addF_ints1 (sliceL ss (some 1) none) (ws.length : Int) (by have := sliceL_len ss (some 1) none; first | exact le_lim (by assumption) | exact le_lim6 (by assumption) | (unfold lim; omega))
  have hend : sliceL ss (some 1) none ++ [(ws.length : Int)] = endsI ss ws.length := rfl
  have hel : (endsI ss ws.length).length ≤ big := by rw [endsI_len]; first | exact le_big (by assumption) | exact le_big6 (by assumption) | (unfold big; omega)
  rw [hend] at a6
  unfold F__law_are_starts
  rw [fnF_of (by rfl), hg]
  unfold f__law_are_starts
  simp only [getV_s, getV_z, bindR_ok, bindR_exc, bindE_ok, bindE_exc, bindO_next, bindO_ret, bindO_exc, bindO_raise, bindO_brk, bindO_cont, setV_int, setV_str, setV_bool, setV_none, setV_list2, List.set_cons_succ, List.set_cons_zero, truthD_bool, Option.map_some, if_true, if_false, Bool.false_eq_true, retV_z, retV_s, addF_int, subF_int, ltF_int, leF_int, gtF_int, geF_int, eqF_int, neF_int, eqF_str, neF_str, andF_true, andF_false, orF_true, orF_false, isiF_list, isiF_str, isiF_int, isiF_bool, modF_lit, divF_lit, negF_int, notF_bool, asIntR_int, intF_bool, maxF_two, isF_int_none, isF_none_none, isF_list_none, itemF_tup0, itemF_tup1, methF_str, Nat.reduceLT, decide_true, decide_false, beq_self_eq_true, Bool.not_true, Bool.not_false, itemLv_int, itemLv_str, itemLv_list, itemLv_bool, itemLv_none, lvOf_strs, lvOf_ints, ne_eq, not_false_eq_true, not_true_eq_false, s__law_are_starts_1, wholes_ok ss hsl, s__law_are_starts_2, sliceF_ints _ _ _ hsl, lenF_map _ _ hlb, listF_int, a6]
  rcases hv with ⟨h1, h2⟩ | ⟨h1, h2, h3⟩
  · subst h1; subst h2
    simp only [getV_s, getV_z, bindR_ok, bindR_exc, bindE_ok, bindE_exc, bindO_next, bindO_ret, bindO_exc, bindO_raise, bindO_brk, bindO_cont, setV_int, setV_str, setV_bool, setV_none, setV_list2, List.set_cons_succ, List.set_cons_zero, truthD_bool, Option.map_some, if_true, if_false, Bool.false_eq_true, retV_z, retV_s, addF_int, subF_int, ltF_int, leF_int, gtF_int, geF_int, eqF_int, neF_int, eqF_str, neF_str, andF_true, andF_false, orF_true, orF_false, isiF_list, isiF_str, isiF_int, isiF_bool, modF_lit, divF_lit, negF_int, notF_bool, asIntR_int, intF_bool, maxF_two, isF_int_none, isF_none_none, isF_list_none, itemF_tup0, itemF_tup1, methF_str, Nat.reduceLT, decide_true, decide_false, beq_self_eq_true, Bool.not_true, Bool.not_false, itemLv_int, itemLv_str, itemLv_list, itemLv_bool, itemLv_none, lvOf_strs, lvOf_ints, ne_eq, not_false_eq_true, not_true_eq_false, s__law_are_starts_3, listF_nil, eqF_ints_nil, eqF_strs_nil]
    rfl
  · have hp := List.length_pos_iff.mpr h1
    have x0 : itemF [.list (ss.map .int), .int 0] = _ := itemF_at D.int ss 0 _ (getD_some 0 hp) hsb
    simp only [getV_s, getV_z, bindR_ok, bindR_exc, bindE_ok, bindE_exc, bindO_next, bindO_ret, bindO_exc, bindO_raise, bindO_brk, bindO_cont, setV_int, setV_str, setV_bool, setV_none, setV_list2, List.set_cons_succ, List.set_cons_zero, truthD_bool, Option.map_some, if_true, if_false, Bool.false_eq_true, retV_z, retV_s, addF_int, subF_int, ltF_int, leF_int, gtF_int, geF_int, eqF_int, neF_int, eqF_str, neF_str, andF_true, andF_false, orF_true, orF_false, isiF_list, isiF_str, isiF_int, isiF_bool, modF_lit, divF_lit, negF_int, notF_bool, asIntR_int, intF_bool, maxF_two, isF_int_none, isF_none_none, isF_list_none, itemF_tup0, itemF_tup1, methF_str, Nat.reduceLT, decide_true, decide_false, beq_self_eq_true, Bool.not_true, Bool.not_false, itemLv_int, itemLv_str, itemLv_list, itemLv_bool, itemLv_none, lvOf_strs, lvOf_ints, ne_eq, not_false_eq_true, not_true_eq_false, s__law_are_starts_3, listF_nil, eqF_ints_nil, h1, s__law_are_starts_4, x0, h2]
    unfold s__law_are_starts_5
    rw [forF_of (by simp only [getV_s, getV_z, bindR_ok, bindR_exc, bindE_ok, bindE_exc, bindO_next, bindO_ret, bindO_exc, bindO_raise, bindO_brk, bindO_cont, setV_int, setV_str, setV_bool, setV_none, setV_list2, List.set_cons_succ, List.set_cons_zero, truthD_bool, Option.map_some, if_true, if_false, Bool.false_eq_true, retV_z, retV_s, addF_int, subF_int, ltF_int, leF_int, gtF_int, geF_int, eqF_int, neF_int, eqF_str, neF_str, andF_true, andF_false, orF_true, orF_false, isiF_list, isiF_str, isiF_int, isiF_bool, modF_lit, divF_lit, negF_int, notF_bool, asIntR_int, intF_bool, maxF_two, isF_int_none, isF_none_none, isF_list_none, itemF_tup0, itemF_tup1, methF_str, Nat.reduceLT, decide_true, decide_false, beq_self_eq_true, Bool.not_true, Bool.not_false, itemLv_int, itemLv_str, itemLv_list, itemLv_bool, itemLv_none, lvOf_strs, lvOf_ints, ne_eq, not_false_eq_true, not_true_eq_false, lenF_map _ _ hsb, rngF_nat _ hsl]; rfl)]
    have hd : dropL [] [some (.list (ws.map .str), 0), some (.int w, 2), some (.list (ss.map .int), 0), some (.list ((endsI ss ws.length).map .int), 2), none] = [some (.list (ws.map .str), 0), some (.int w, 2), some (.list (ss.map .int), 0), some (.list ((endsI ss ws.length).map .int), 2), none] := rfl
    rw [hd]
    rcases loopF_find (fB := b__law_are_starts_1) (ix := 4) (fun (i : Nat) => D.int (i : Int)) (fun v => [some (.list (ws.map .str), 0), some (.int w, 2), some (.list (ss.map .int), 0), some (.list ((endsI ss ws.length).map .int), 2), v]) (fun _ => false) (fun _ => (.none, 2)) (fun _ _ => rfl) (List.range ss.length) none (by
      intro i hi
      have hi := List.mem_range.mp hi
      have x1 := itemF_at D.int ss i _ (getD_some 0 hi) hsb
      have x2 := itemF_at D.int (endsI ss ws.length) i _ (getD_some 0 (by rw [endsI_len]; omega)) hel
      obtain ⟨y1, y2⟩ := h3 i hi
      have y3 : ¬ w < (szI ws (ss.getD i 0) ((endsI ss ws.length).getD i 0) : Int) := by omega
      exact ⟨fun h => by (cases h), fun _ => ⟨_, by simp only [getV_s, getV_z, bindR_ok, bindR_exc, bindE_ok, bindE_exc, bindO_next, bindO_ret, bindO_exc, bindO_raise, bindO_brk, bindO_cont, setV_int, setV_str, setV_bool, setV_none, setV_list2, List.set_cons_succ, List.set_cons_zero, truthD_bool, Option.map_some, if_true, if_false, Bool.false_eq_true, retV_z, retV_s, addF_int, subF_int, ltF_int, leF_int, gtF_int, geF_int, eqF_int, neF_int, eqF_str, neF_str, andF_true, andF_false, orF_true, orF_false, isiF_list, isiF_str, isiF_int, isiF_bool, modF_lit, divF_lit, negF_int, notF_bool, asIntR_int, intF_bool, maxF_two, isF_int_none, isF_none_none, isF_list_none, itemF_tup0, itemF_tup1, methF_str, Nat.reduceLT, decide_true, decide_false, beq_self_eq_true, Bool.not_true, Bool.not_false, itemLv_int, itemLv_str, itemLv_list, itemLv_bool, itemLv_none, lvOf_strs, lvOf_ints, ne_eq, not_false_eq_true, not_true_eq_false, b__law_are_starts_1, x1, x2, y1, sizeI_ok ws _ _ hl hw, y3]; rfl⟩⟩) with ⟨h4, v, e⟩ | ⟨i, h4, e⟩
    · rw [e]
      simp only [getV_s, getV_z, bindR_ok, bindR_exc, bindE_ok, bindE_exc, bindO_next, bindO_ret, bindO_exc, bindO_raise, bindO_brk, bindO_cont, setV_int, setV_str, setV_bool, setV_none, setV_list2, List.set_cons_succ, List.set_cons_zero, truthD_bool, Option.map_some, if_true, if_false, Bool.false_eq_true, retV_z, retV_s, addF_int, subF_int, ltF_int, leF_int, gtF_int, geF_int, eqF_int, neF_int, eqF_str, neF_str, andF_true, andF_false, orF_true, orF_false, isiF_list, isiF_str, isiF_int, isiF_bool, modF_lit, divF_lit, negF_int, notF_bool, asIntR_int, intF_bool, maxF_two, isF_int_none, isF_none_none, isF_list_none, itemF_tup0, itemF_tup1, methF_str, Nat.reduceLT, decide_true, decide_false, beq_self_eq_true, Bool.not_true, Bool.not_false, itemLv_int, itemLv_str, itemLv_list, itemLv_bool, itemLv_none, lvOf_strs, lvOf_ints, ne_eq, not_false_eq_true, not_true_eq_false, s__law_are_starts_6]
      rfl
    · exact absurd (List.find?_some h4) Bool.false_ne_true
theorem spread_ok (ws : List (List Nat)) (w : Nat) (h : 1 ≤ w) (hwu : w ≤ 1000000) (hl : ws.length ≤ 90000) (hw : (ws.map List.length).sum ≤ 3000000) (hb : sz ws 0 ws.length ≤ w) : F_spread_line [.list (ws.map .str), .int (w : Int)] = some (.ok (.str (spreadT ws w), 2)) := by
  have hg : argG 6 [.list (ws.map D.str), .int (w : Int)] = [some (.list (ws.map .str), 0), some (.int (w : Int), 2), none, none, none, none, none, none] := rfl
  have hll : ws.length ≤ lim := by first | exact le_lim (by assumption) | exact le_lim6 (by assumption) | (unfold lim; omega)
  have hlb : ws.length ≤ big := by first | exact le_big (by assumption) | exact le_big6 (by assumption) | (unfold big; omega)
  have hso : F_size_of [.list (ws.map .str), .int 0, .int (ws.length : Int)] = _ := size_of_ok ws 0 ws.length (by omega) (by omega) hl hw
  have hb' : ¬ ((w : Int) < (sz ws 0 ws.length : Int)) := by omega
  have hall := sz_all ws
  unfold F_spread_line
  rw [fnF_of (by rfl), hg]
  unfold f_spread_line
  simp -implicitDefEqProofs only [getV_s, getV_z, bindR_ok, bindR_exc, bindE_ok, bindE_exc, bindO_next, bindO_ret, bindO_exc, bindO_raise, bindO_brk, bindO_cont, setV_int, setV_str, setV_bool, setV_none, setV_list2, List.set_cons_succ, List.set_cons_zero, truthD_bool, Option.map_some, if_true, if_false, Bool.false_eq_true, retV_z, retV_s, addF_int, subF_int, ltF_int, leF_int, gtF_int, geF_int, eqF_int, neF_int, eqF_str, neF_str, andF_true, andF_false, orF_true, orF_false, isiF_list, isiF_str, isiF_int, isiF_bool, modF_lit, divF_lit, negF_int, notF_bool, asIntR_int, intF_bool, maxF_two, isF_int_none, isF_none_none, isF_list_none, itemF_tup0, itemF_tup1, methF_str, Nat.reduceLT, decide_true, decide_false, beq_self_eq_true, Bool.not_true, Bool.not_false, itemLv_int, itemLv_str, itemLv_list, itemLv_bool, itemLv_none, lvOf_strs, lvOf_ints, ne_eq, not_false_eq_true, not_true_eq_false, s_spread_line_1, need_width_ok (w : Int) (by omega), s_spread_line_2, lenF_map _ _ hlb, hso, hb']
  by_cases h2 : (ws.length : Int) < 2
  · have hj : joinF [.str [], .list (ws.map .str)] = _ := joinF_strs [] ws (by unfold totalN lim; simp only [List.length_nil]; omega)
    simp -implicitDefEqProofs only [getV_s, getV_z, bindR_ok, bindR_exc, bindE_ok, bindE_exc, bindO_next, bindO_ret, bindO_exc, bindO_raise, bindO_brk, bindO_cont, setV_int, setV_str, setV_bool, setV_none, setV_list2, List.set_cons_succ, List.set_cons_zero, truthD_bool, Option.map_some, if_true, if_false, Bool.false_eq_true, retV_z, retV_s, addF_int, subF_int, ltF_int, leF_int, gtF_int, geF_int, eqF_int, neF_int, eqF_str, neF_str, andF_true, andF_false, orF_true, orF_false, isiF_list, isiF_str, isiF_int, isiF_bool, modF_lit, divF_lit, negF_int, notF_bool, asIntR_int, intF_bool, maxF_two, isF_int_none, isF_none_none, isF_list_none, itemF_tup0, itemF_tup1, methF_str, Nat.reduceLT, decide_true, decide_false, beq_self_eq_true, Bool.not_true, Bool.not_false, itemLv_int, itemLv_str, itemLv_list, itemLv_bool, itemLv_none, lvOf_strs, lvOf_ints, ne_eq, not_false_eq_true, not_true_eq_false, s_spread_line_3, lenF_map _ _ hlb, h2, hj]
    rw [spreadT_small w (by omega)]
    rfl
  · have hd : 0 < ws.length - 1 := by omega
    have hne : ws ≠ [] := fun e => by subst e; simp at h2
    generalize hB : w - pre ws ws.length = B
    have hBw : pre ws ws.length + B = w := by omega
    have hc := compF_src (fE := e_spread_line_1) (cap := []) (Γ := [some (.list (ws.map .str), 0), some (.int (w : Int), 2), none, none, none, none, none, none]) D.str (fun x => .int (x.length : Int)) ws (fun x hx => ⟨2, by simp -implicitDefEqProofs only [getV_s, getV_z, bindR_ok, bindR_exc, bindE_ok, bindE_exc, bindO_next, bindO_ret, bindO_exc, bindO_raise, bindO_brk, bindO_cont, setV_int, setV_str, setV_bool, setV_none, setV_list2, List.set_cons_succ, List.set_cons_zero, truthD_bool, Option.map_some, if_true, if_false, Bool.false_eq_true, retV_z, retV_s, addF_int, subF_int, ltF_int, leF_int, gtF_int, geF_int, eqF_int, neF_int, eqF_str, neF_str, andF_true, andF_false, orF_true, orF_false, isiF_list, isiF_str, isiF_int, isiF_bool, modF_lit, divF_lit, negF_int, notF_bool, asIntR_int, intF_bool, maxF_two, isF_int_none, isF_none_none, isF_list_none, itemF_tup0, itemF_tup1, methF_str, Nat.reduceLT, decide_true, decide_false, beq_self_eq_true, Bool.not_true, Bool.not_false, itemLv_int, itemLv_str, itemLv_list, itemLv_bool, itemLv_none, lvOf_strs, lvOf_ints, ne_eq, not_false_eq_true, not_true_eq_false, e_spread_line_1, compG, lenF_str _ (show x.length ≤ big by have := mem_sum hx; first | exact le_big (by assumption) | exact le_big6 (by assumption) | (unfold big; omega))]⟩)
    have hm : ws.map (fun x => D.int (x.length : Int)) = ((ws.map List.length).map fun (n : Nat) => (n : Int)).map .int := by rw [List.map_map, List.map_map]; rfl
    rw [hm] at hc
    have hsub : (w : Int) - ((ws.map List.length).sum : Nat) = (B : Int) := by rw [← pre_all]; omega
    have hdv : divF [.int (B : Int), .int ((ws.length : Int) - 1)] = some (.ok (.int ((B / (ws.length - 1) : Nat) : Int), 2)) := by
      rw [divF_int _ _ (by omega) (by omega), show (ws.length : Int) - 1 = ((ws.length - 1 : Nat) : Int) by omega, fdiv_nat]
    have hmu : mulF [.int ((B / (ws.length - 1) : Nat) : Int), .int ((ws.length : Int) - 1)] = some (.ok (.int (((B / (ws.length - 1)) * (ws.length - 1) : Nat) : Int), 2)) := by
      rw [mulF_int _ _ (mulOk_right _ _ (by omega)), show (ws.length : Int) - 1 = ((ws.length - 1 : Nat) : Int) by omega]; rfl
    have hmod : (B : Int) - ((B / (ws.length - 1) * (ws.length - 1) : Nat) : Int) = ((B % (ws.length - 1) : Nat) : Int) := by
      have := Nat.div_add_mod B (ws.length - 1); rw [Nat.mul_comm] at this; omega
    have x0 : itemF [.list (ws.map .str), .int 0] = _ := itemF_at D.str ws 0 _ (getD_some [] (show 0 < ws.length by omega)) hlb
    simp -implicitDefEqProofs only [getV_s, getV_z, bindR_ok, bindR_exc, bindE_ok, bindE_exc, bindO_next, bindO_ret, bindO_exc, bindO_raise, bindO_brk, bindO_cont, setV_int, setV_str, setV_bool, setV_none, setV_list2, List.set_cons_succ, List.set_cons_zero, truthD_bool, Option.map_some, if_true, if_false, Bool.false_eq_true, retV_z, retV_s, addF_int, subF_int, ltF_int, leF_int, gtF_int, geF_int, eqF_int, neF_int, eqF_str, neF_str, andF_true, andF_false, orF_true, orF_false, isiF_list, isiF_str, isiF_int, isiF_bool, modF_lit, divF_lit, negF_int, notF_bool, asIntR_int, intF_bool, maxF_two, isF_int_none, isF_none_none, isF_list_none, itemF_tup0, itemF_tup1, methF_str, Nat.reduceLT, decide_true, decide_false, beq_self_eq_true, Bool.not_true, Bool.not_false, itemLv_int, itemLv_str, itemLv_list, itemLv_bool, itemLv_none, lvOf_strs, lvOf_ints, ne_eq, not_false_eq_true, not_true_eq_false, s_spread_line_3, lenF_map _ _ hlb, h2, s_spread_line_4, itF_map _ _ _ hll, hc, sumF_ints, natInt_sum, hsub, s_spread_line_5, hdv, s_spread_line_6, hmu, hmod, s_spread_line_7, x0]
    obtain ⟨v, e⟩ := loopF_range (fB := b_spread_line_1) (ix := 6) (fun (i : Nat) => D.int ((1 + i : Nat) : Int)) (fun i v => [some (.list (ws.map .str), 0), some (.int (w : Int), 2), some (.int (B : Int), 2), some (.int ((B / (ws.length - 1) : Nat) : Int), 2), some (.int ((B % (ws.length - 1) : Nat) : Int), 2), some (.str (spl ws B i), 2), v, match i with | 0 => none | i + 1 => some (.int (gapB B (ws.length - 1) (i + 1) : Nat), 2)]) (fun _ _ _ => rfl) (ws.length - 1) none (by
      intro i hi
      have x1 := itemF_at D.str ws (1 + i) _ (getD_some [] (show 1 + i < ws.length by omega)) hlb
      rw [Nat.add_comm 1 i] at x1 ⊢
      have hgl := gap_le B (ws.length - 1) (i + 1)
      have m1 := mulF_str [32] (gapB B (ws.length - 1) (i + 1)) (by simp; first | exact le_lim (by assumption) | exact le_lim6 (by assumption) | (unfold lim; omega)) (by omega)
      rw [repL_one] at m1
      have a1 := addF_str (spl ws B i) (List.replicate (gapB B (ws.length - 1) (i + 1)) 32) (by have := spl_gap_le (B := B) (show i + 1 < ws.length by omega); first | exact le_lim (by assumption) | exact le_lim6 (by assumption) | (unfold lim; omega))
      have a2 := addF_str (spl ws B i ++ List.replicate (gapB B (ws.length - 1) (i + 1)) 32) (ws.getD (i + 1) []) (by have := spl_le (B := B) (show i + 1 < ws.length by omega); rw [spl] at this; first | exact le_lim (by assumption) | exact le_lim6 (by assumption) | (unfold lim; omega))
      refine ⟨some (.int ((i + 1 : Nat) : Int), 2), ?_⟩
      by_cases hle : i + 1 ≤ B % (ws.length - 1)
      · have hle' : (((i + 1 : Nat) : Int) ≤ ((B % (ws.length - 1) : Nat) : Int)) := by omega
        have hgp : ((B / (ws.length - 1) : Nat) : Int) + 1 = (gapB B (ws.length - 1) (i + 1) : Nat) := by unfold gapB; rw [if_pos hle]; omega
        simp -implicitDefEqProofs only [getV_s, getV_z, bindR_ok, bindR_exc, bindE_ok, bindE_exc, bindO_next, bindO_ret, bindO_exc, bindO_raise, bindO_brk, bindO_cont, setV_int, setV_str, setV_bool, setV_none, setV_list2, List.set_cons_succ, List.set_cons_zero, truthD_bool, Option.map_some, if_true, if_false, Bool.false_eq_true, retV_z, retV_s, addF_int, subF_int, ltF_int, leF_int, gtF_int, geF_int, eqF_int, neF_int, eqF_str, neF_str, andF_true, andF_false, orF_true, orF_false, isiF_list, isiF_str, isiF_int, isiF_bool, modF_lit, divF_lit, negF_int, notF_bool, asIntR_int, intF_bool, maxF_two, isF_int_none, isF_none_none, isF_list_none, itemF_tup0, itemF_tup1, methF_str, Nat.reduceLT, decide_true, decide_false, beq_self_eq_true, Bool.not_true, Bool.not_false, itemLv_int, itemLv_str, itemLv_list, itemLv_bool, itemLv_none, lvOf_strs, lvOf_ints, ne_eq, not_false_eq_true, not_true_eq_false, b_spread_line_1, hle', hgp, m1, a1, x1, a2, spl]
      · have hle' : ¬ (((i + 1 : Nat) : Int) ≤ ((B % (ws.length - 1) : Nat) : Int)) := by omega
        have hgp : ((B / (ws.length - 1) : Nat) : Int) = (gapB B (ws.length - 1) (i + 1) : Nat) := by unfold gapB; rw [if_neg hle]; omega
        simp -implicitDefEqProofs only [getV_s, getV_z, bindR_ok, bindR_exc, bindE_ok, bindE_exc, bindO_next, bindO_ret, bindO_exc, bindO_raise, bindO_brk, bindO_cont, setV_int, setV_str, setV_bool, setV_none, setV_list2, List.set_cons_succ, List.set_cons_zero, truthD_bool, Option.map_some, if_true, if_false, Bool.false_eq_true, retV_z, retV_s, addF_int, subF_int, ltF_int, leF_int, gtF_int, geF_int, eqF_int, neF_int, eqF_str, neF_str, andF_true, andF_false, orF_true, orF_false, isiF_list, isiF_str, isiF_int, isiF_bool, modF_lit, divF_lit, negF_int, notF_bool, asIntR_int, intF_bool, maxF_two, isF_int_none, isF_none_none, isF_list_none, itemF_tup0, itemF_tup1, methF_str, Nat.reduceLT, decide_true, decide_false, beq_self_eq_true, Bool.not_true, Bool.not_false, itemLv_int, itemLv_str, itemLv_list, itemLv_bool, itemLv_none, lvOf_strs, lvOf_ints, ne_eq, not_false_eq_true, not_true_eq_false, b_spread_line_1, hle', m1, a1, x1, a2, spl, hgp])
    have hr : rngF [.int 1, .int (ws.length : Int)] = _ := rngF_two 1 ws.length (by omega) hll
    unfold s_spread_line_8
    rw [forF_of (by simp -implicitDefEqProofs only [getV_s, getV_z, bindR_ok, bindR_exc, bindE_ok, bindE_exc, bindO_next, bindO_ret, bindO_exc, bindO_raise, bindO_brk, bindO_cont, setV_int, setV_str, setV_bool, setV_none, setV_list2, List.set_cons_succ, List.set_cons_zero, truthD_bool, Option.map_some, if_true, if_false, Bool.false_eq_true, retV_z, retV_s, addF_int, subF_int, ltF_int, leF_int, gtF_int, geF_int, eqF_int, neF_int, eqF_str, neF_str, andF_true, andF_false, orF_true, orF_false, isiF_list, isiF_str, isiF_int, isiF_bool, modF_lit, divF_lit, negF_int, notF_bool, asIntR_int, intF_bool, maxF_two, isF_int_none, isF_none_none, isF_list_none, itemF_tup0, itemF_tup1, methF_str, Nat.reduceLT, decide_true, decide_false, beq_self_eq_true, Bool.not_true, Bool.not_false, itemLv_int, itemLv_str, itemLv_list, itemLv_bool, itemLv_none, lvOf_strs, lvOf_ints, ne_eq, not_false_eq_true, not_true_eq_false, lenF_map _ _ hlb, hr]; rfl)]
    rw [show dropL [] [some (D.list (ws.map .str), 0), some (.int (w : Int), 2), some (.int (B : Int), 2), some (.int ((B / (ws.length - 1) : Nat) : Int), 2), some (.int ((B % (ws.length - 1) : Nat) : Int), 2), some (.str (ws.getD 0 []), 2), none, none] = [some (D.list (ws.map .str), 0), some (.int (w : Int), 2), some (.int (B : Int), 2), some (.int ((B / (ws.length - 1) : Nat) : Int), 2), some (.int ((B % (ws.length - 1) : Nat) : Int), 2), some (.str (ws.getD 0 []), 2), none, none] from rfl]
    rw [show loopF b_spread_line_1 6 ((List.range (ws.length - 1)).map fun (i : Nat) => D.int ((1 + i : Nat) : Int)) [some (D.list (ws.map .str), 0), some (.int (w : Int), 2), some (.int (B : Int), 2), some (.int ((B / (ws.length - 1) : Nat) : Int), 2), some (.int ((B % (ws.length - 1) : Nat) : Int), 2), some (.str (ws.getD 0 []), 2), none, none] = _ from e]
    simp -implicitDefEqProofs only [getV_s, getV_z, bindR_ok, bindR_exc, bindE_ok, bindE_exc, bindO_next, bindO_ret, bindO_exc, bindO_raise, bindO_brk, bindO_cont, setV_int, setV_str, setV_bool, setV_none, setV_list2, List.set_cons_succ, List.set_cons_zero, truthD_bool, Option.map_some, if_true, if_false, Bool.false_eq_true, retV_z, retV_s, addF_int, subF_int, ltF_int, leF_int, gtF_int, geF_int, eqF_int, neF_int, eqF_str, neF_str, andF_true, andF_false, orF_true, orF_false, isiF_list, isiF_str, isiF_int, isiF_bool, modF_lit, divF_lit, negF_int, notF_bool, asIntR_int, intF_bool, maxF_two, isF_int_none, isF_none_none, isF_list_none, itemF_tup0, itemF_tup1, methF_str, Nat.reduceLT, decide_true, decide_false, beq_self_eq_true, Bool.not_true, Bool.not_false, itemLv_int, itemLv_str, itemLv_list, itemLv_bool, itemLv_none, lvOf_strs, lvOf_ints, ne_eq, not_false_eq_true, not_true_eq_false, s_spread_line_9, spreadT, hne, hB]
    rfl
theorem law_spread_ok (ws : List (List Nat)) (w : Nat) (h : 1 ≤ w) (hwu : w ≤ 1000000) (hl : ws.length ≤ 90000) (hw : (ws.map List.length).sum ≤ 3000000) (hb : sz ws 0 ws.length ≤ w) : F__law_spread [.list (ws.map .str), .int (w : Int)] = some (.ok (.str (spreadT ws w), 2)) := by
  have hg : argG 3 [.list (ws.map D.str), .int (w : Int)] = [some (.list (ws.map .str), 0), some (.int (w : Int), 2), none, none, none] := rfl
  have hll : ws.length ≤ lim := by first | exact le_lim (by assumption) | exact le_lim6 (by assumption) | (unfold lim; omega)
  have hlb : ws.length ≤ big := by first | exact le_big (by assumption) | exact le_big6 (by assumption) | (unfold big; omega)
  have hall := sz_all ws
  generalize hB : w - pre ws ws.length = B
  have hBw : pre ws ws.length + B = w := by omega
  have hc := compF_src (fE := e__law_spread_1) (cap := []) (Γ := [some (.list (ws.map .str), 0), some (.int (w : Int), 2), none, none, none]) D.str (fun x => .int (x.length : Int)) ws (fun x hx => ⟨2, by simp -implicitDefEqProofs only [getV_s, getV_z, bindR_ok, bindR_exc, bindE_ok, bindE_exc, bindO_next, bindO_ret, bindO_exc, bindO_raise, bindO_brk, bindO_cont, setV_int, setV_str, setV_bool, setV_none, setV_list2, List.set_cons_succ, List.set_cons_zero, truthD_bool, Option.map_some, if_true, if_false, Bool.false_eq_true, retV_z, retV_s, addF_int, subF_int, ltF_int, leF_int, gtF_int, geF_int, eqF_int, neF_int, eqF_str, neF_str, andF_true, andF_false, orF_true, orF_false, isiF_list, isiF_str, isiF_int, isiF_bool, modF_lit, divF_lit, negF_int, notF_bool, asIntR_int, intF_bool, maxF_two, isF_int_none, isF_none_none, isF_list_none, itemF_tup0, itemF_tup1, methF_str, Nat.reduceLT, decide_true, decide_false, beq_self_eq_true, Bool.not_true, Bool.not_false, itemLv_int, itemLv_str, itemLv_list, itemLv_bool, itemLv_none, lvOf_strs, lvOf_ints, ne_eq, not_false_eq_true, not_true_eq_false, e__law_spread_1, compG, lenF_str _ (show x.length ≤ big by have := mem_sum hx; first | exact le_big (by assumption) | exact le_big6 (by assumption) | (unfold big; omega))]⟩)
  have hm : ws.map (fun x => D.int (x.length : Int)) = ((ws.map List.length).map fun (n : Nat) => (n : Int)).map .int := by rw [List.map_map, List.map_map]; rfl
  rw [hm] at hc
  have hsub : (w : Int) - ((ws.map List.length).sum : Nat) = (B : Int) := by rw [← pre_all]; omega
  let L : Nat → List Nat := fun i => match i with
    | 0 => []
    | i + 1 => if i + 1 < ws.length then spl ws B i ++ List.replicate (gapB B (ws.length - 1) (i + 1)) 32 else spl ws B i
  have hL : ∀ i, i < ws.length → L i ++ ws.getD i [] = spl ws B i := by
    intro i hi
    cases i with
    | zero => rfl
    | succ i => show (if i + 1 < ws.length then _ else _) ++ _ = _; rw [if_pos hi, spl]
  obtain ⟨v, e⟩ := loopF_range (fB := b__law_spread_1) (ix := 4) (fun (i : Nat) => D.int (i : Int)) (fun i v => [some (.list (ws.map .str), 0), some (.int (w : Int), 2), some (.int (B : Int), 2), some (.str (L i), 2), v]) (fun _ _ _ => rfl) ws.length none (by
    intro i hi
    have x1 := itemF_at D.str ws i _ (getD_some [] hi) hlb
    have a1 := addF_str (L i) (ws.getD i []) (by rw [hL i hi]; have := spl_le (B := B) hi; first | exact le_lim (by assumption) | exact le_lim6 (by assumption) | (unfold lim; omega))
    rw [hL i hi] at a1
    refine ⟨some (.int (i : Int), 2), ?_⟩
    by_cases h2 : i + 1 < ws.length
    · have h2' : ((i : Int) + 1 < ws.length) := by omega
      have hgl := gap_le B (ws.length - 1) (i + 1)
      have m1 := mulF_str [32] (gapB B (ws.length - 1) (i + 1)) (by simp; first | exact le_lim (by assumption) | exact le_lim6 (by assumption) | (unfold lim; omega)) (by omega)
      rw [repL_one] at m1
      have hdv : divF [.int ((B : Int) - i + ws.length - 2), .int ((ws.length : Int) - 1)] = some (.ok (.int ((gapB B (ws.length - 1) (i + 1) : Nat) : Int), 2)) := by
        rw [divF_int _ _ (by omega) (by omega), ← gap_div (show 1 ≤ i + 1 by omega) (show i + 1 ≤ ws.length - 1 by omega), ← fdiv_nat, show (B : Int) - i + ws.length - 2 = ((B + (ws.length - 1 - (i + 1)) : Nat) : Int) by omega, show (ws.length : Int) - 1 = ((ws.length - 1 : Nat) : Int) by omega]
      have a2 := addF_str (spl ws B i) (List.replicate (gapB B (ws.length - 1) (i + 1)) 32) (by have := spl_gap_le (B := B) h2; first | exact le_lim (by assumption) | exact le_lim6 (by assumption) | (unfold lim; omega))
      have hL1 : L (i + 1) = spl ws B i ++ List.replicate (gapB B (ws.length - 1) (i + 1)) 32 := if_pos h2
      simp -implicitDefEqProofs only [getV_s, getV_z, bindR_ok, bindR_exc, bindE_ok, bindE_exc, bindO_next, bindO_ret, bindO_exc, bindO_raise, bindO_brk, bindO_cont, setV_int, setV_str, setV_bool, setV_none, setV_list2, List.set_cons_succ, List.set_cons_zero, truthD_bool, Option.map_some, if_true, if_false, Bool.false_eq_true, retV_z, retV_s, addF_int, subF_int, ltF_int, leF_int, gtF_int, geF_int, eqF_int, neF_int, eqF_str, neF_str, andF_true, andF_false, orF_true, orF_false, isiF_list, isiF_str, isiF_int, isiF_bool, modF_lit, divF_lit, negF_int, notF_bool, asIntR_int, intF_bool, maxF_two, isF_int_none, isF_none_none, isF_list_none, itemF_tup0, itemF_tup1, methF_str, Nat.reduceLT, decide_true, decide_false, beq_self_eq_true, Bool.not_true, Bool.not_false, itemLv_int, itemLv_str, itemLv_list, itemLv_bool, itemLv_none, lvOf_strs, lvOf_ints, ne_eq, not_false_eq_true, not_true_eq_false, b__law_spread_1, x1, a1, lenF_map _ _ hlb, h2', hdv, m1, a2, hL1]
    · have h2' : ¬ ((i : Int) + 1 < ws.length) := by omega
      have hL1 : L (i + 1) = spl ws B i := if_neg h2
      simp -implicitDefEqProofs only [getV_s, getV_z, bindR_ok, bindR_exc, bindE_ok, bindE_exc, bindO_next, bindO_ret, bindO_exc, bindO_raise, bindO_brk, bindO_cont, setV_int, setV_str, setV_bool, setV_none, setV_list2, List.set_cons_succ, List.set_cons_zero, truthD_bool, Option.map_some, if_true, if_false, Bool.false_eq_true, retV_z, retV_s, addF_int, subF_int, ltF_int, leF_int, gtF_int, geF_int, eqF_int, neF_int, eqF_str, neF_str, andF_true, andF_false, orF_true, orF_false, isiF_list, isiF_str, isiF_int, isiF_bool, modF_lit, divF_lit, negF_int, notF_bool, asIntR_int, intF_bool, maxF_two, isF_int_none, isF_none_none, isF_list_none, itemF_tup0, itemF_tup1, methF_str, Nat.reduceLT, decide_true, decide_false, beq_self_eq_true, Bool.not_true, Bool.not_false, itemLv_int, itemLv_str, itemLv_list, itemLv_bool, itemLv_none, lvOf_strs, lvOf_ints, ne_eq, not_false_eq_true, not_true_eq_false, b__law_spread_1, x1, a1, lenF_map _ _ hlb, h2', hL1])
  have hend : L ws.length = spreadT ws w := by
    unfold spreadT
    rw [hB]
    cases ws with
    | nil => rfl
    | cons x r => rw [if_neg (by simp)]; show (if (x :: r).length < (x :: r).length then _ else _) = _; rw [if_neg (by omega)]; rfl
  rw [hend] at e
  have e3 : s__law_spread_3 [some (.list (ws.map .str), 0), some (.int (w : Int), 2), some (.int (B : Int), 2), some (.str [], 2), none] = some (.next [some (.list (ws.map .str), 0), some (.int (w : Int), 2), some (.int (B : Int), 2), some (.str (spreadT ws w), 2), v]) := by
    unfold s__law_spread_3
    rw [forF_of (by simp -implicitDefEqProofs only [getV_s, getV_z, bindR_ok, bindR_exc, bindE_ok, bindE_exc, bindO_next, bindO_ret, bindO_exc, bindO_raise, bindO_brk, bindO_cont, setV_int, setV_str, setV_bool, setV_none, setV_list2, List.set_cons_succ, List.set_cons_zero, truthD_bool, Option.map_some, if_true, if_false, Bool.false_eq_true, retV_z, retV_s, addF_int, subF_int, ltF_int, leF_int, gtF_int, geF_int, eqF_int, neF_int, eqF_str, neF_str, andF_true, andF_false, orF_true, orF_false, isiF_list, isiF_str, isiF_int, isiF_bool, modF_lit, divF_lit, negF_int, notF_bool, asIntR_int, intF_bool, maxF_two, isF_int_none, isF_none_none, isF_list_none, itemF_tup0, itemF_tup1, methF_str, Nat.reduceLT, decide_true, decide_false, beq_self_eq_true, Bool.not_true, Bool.not_false, itemLv_int, itemLv_str, itemLv_list, itemLv_bool, itemLv_none, lvOf_strs, lvOf_ints, ne_eq, not_false_eq_true, not_true_eq_false, lenF_map _ _ hlb, rngF_nat _ hll]; rfl)]
    exact e
  unfold F__law_spread
  rw [fnF_of (by rfl), hg]
  unfold f__law_spread
  simp -implicitDefEqProofs only [getV_s, getV_z, bindR_ok, bindR_exc, bindE_ok, bindE_exc, bindO_next, bindO_ret, bindO_exc, bindO_raise, bindO_brk, bindO_cont, setV_int, setV_str, setV_bool, setV_none, setV_list2, List.set_cons_succ, List.set_cons_zero, truthD_bool, Option.map_some, if_true, if_false, Bool.false_eq_true, retV_z, retV_s, addF_int, subF_int, ltF_int, leF_int, gtF_int, geF_int, eqF_int, neF_int, eqF_str, neF_str, andF_true, andF_false, orF_true, orF_false, isiF_list, isiF_str, isiF_int, isiF_bool, modF_lit, divF_lit, negF_int, notF_bool, asIntR_int, intF_bool, maxF_two, isF_int_none, isF_none_none, isF_list_none, itemF_tup0, itemF_tup1, methF_str, Nat.reduceLT, decide_true, decide_false, beq_self_eq_true, Bool.not_true, Bool.not_false, itemLv_int, itemLv_str, itemLv_list, itemLv_bool, itemLv_none, lvOf_strs, lvOf_ints, ne_eq, not_false_eq_true, not_true_eq_false, s__law_spread_1, itF_map _ _ _ hll, hc, sumF_ints, natInt_sum, hsub, s__law_spread_2, e3, s__law_spread_4]
  rfl

theorem sums_from_ok (ws : List (List Nat)) (w : Int) (T : List Int) (a : Nat) (l0 l2 : Nat) (hl : ws.length ≤ 90000) (hw : (ws.map List.length).sum ≤ 3000000) (hwb : w.natAbs ≤ 1000000000000000000000000000000000000) (hT : T.length = ws.length + 1) (ha : a < ws.length) :
    F_sums_from [.list (ws.map .str), .int w, .list (T.map .int), .int (a : Int)] = some (.ok (.list ((sumsL ws w T a).map pairD), 2)) := by
  have hg : argG 3 [.list (ws.map D.str), .int w, .list (T.map D.int), .int (a : Int)] = [some (.list (ws.map .str), 0), some (.int w, 2), some (.list (T.map .int), 0), some (.int (a : Int), 2), none, none, none] := rfl
  have hlb : ws.length ≤ big := by first | exact le_big (by assumption) | exact le_big6 (by assumption) | (unfold big; omega)
  have hTb : T.length ≤ big := by first | exact le_big (by assumption) | exact le_big6 (by assumption) | (unfold big; omega)
  let fr : Nat → Int → Option (D × Nat) → G := fun i s v => [some (.list (ws.map .str), 0), some (.int w, 2), some (.list (T.map .int), 0), some (.int (a : Int), 2), some (.list (((List.range i).map fun i => (a + 1 + i, costT ws w T a (a + 1 + i))).map pairD), 2), some (.int s, 2), v]
  let sI : Nat → Int := fun i => match i with | 0 => -1 | i + 1 => (sz ws a (a + 1 + i) : Int)
  have hsI : ∀ i, a + i < ws.length → sI i + 1 + ((ws.getD (a + i) []).length : Int) = (sz ws a (a + 1 + i) : Int) := by
    intro i hi
    cases i with
    | zero => have := sz_one ws (show a < ws.length by omega); show (-1 : Int) + 1 + _ = _; simp only [Nat.add_zero]; omega
    | succ i =>
      have := sz_succ ws (show a < a + 1 + i by omega) (show a + 1 + i < ws.length by omega)
      show (sz ws a (a + 1 + i) : Int) + 1 + _ = _
      rw [show a + (i + 1) = a + 1 + i by omega, show a + 1 + (i + 1) = a + 1 + i + 1 by omega]; omega
  have hstep : ∀ i, i < ws.length - a → (sz ws a (a + 1 + i) : Int) ≤ w → b_sums_from_1 (fr i (sI i) (some (.int ((a + 1 + i : Nat) : Int), 2))) = some (.next (fr (i + 1) (sI (i + 1)) (some (.int ((a + 1 + i : Nat) : Int), 2)))) := by
    intro i hi hle
    have x1 := itemF_at D.str ws (a + i) _ (getD_some [] (show a + i < ws.length by omega)) hlb
    have x2 := lenF_str _ (show (ws.getD (a + i) []).length ≤ big by have := mem_sum (List.mem_of_getElem? (getD_some [] (show a + i < ws.length by omega))); first | exact le_big (by assumption) | exact le_big6 (by assumption) | (unfold big; omega))
    have x3 : ((a + 1 + i : Nat) : Int) - 1 = ((a + i : Nat) : Int) := by omega
    have x4 := hsI i (by omega)
    have x5 : ¬ w < (sz ws a (a + 1 + i) : Int) := by omega
    have hmap : ∀ v : Int, v = costT ws w T a (a + 1 + i) → ((List.range i).map fun i => (a + 1 + i, costT ws w T a (a + 1 + i))).map pairD ++ [.tup [.int ((a + 1 + i : Nat) : Int), .int v]] = ((List.range (i + 1)).map fun i => (a + 1 + i, costT ws w T a (a + 1 + i))).map pairD := by
      intro v hv
      rw [List.range_succ, List.map_append, List.map_append, hv]; rfl
    have hlen : (((List.range i).map fun i => (a + 1 + i, costT ws w T a (a + 1 + i))).map pairD).length ≤ lim := by rw [List.length_map, List.length_map, List.length_range]; first | exact le_lim (by assumption) | exact le_lim6 (by assumption) | (unfold lim; omega)
    by_cases he : a + 1 + i = ws.length
    · have he' : (((a + 1 + i : Nat) : Int) == (ws.length : Int)) = true := by rw [he]; simp
      have hv : (0 : Int) = costT ws w T a (a + 1 + i) := by unfold costT; rw [if_pos he]
      have hap := appF_flat (occ := [6]) (i := 4) (f := a_sums_from_1) (Γ := fr i (sz ws a (a + 1 + i) : Int) (some (.int ((a + 1 + i : Nat) : Int), 2))) rfl (by decide) hlen (d := .tup [.int ((a + 1 + i : Nat) : Int), .int 0]) (lv' := 2) (by simp -implicitDefEqProofs only [getV_s, getV_z, bindR_ok, bindR_exc, bindE_ok, bindE_exc, bindO_next, bindO_ret, bindO_exc, bindO_raise, bindO_brk, bindO_cont, setV_int, setV_str, setV_bool, setV_none, setV_list2, List.set_cons_succ, List.set_cons_zero, truthD_bool, Option.map_some, if_true, if_false, Bool.false_eq_true, retV_z, retV_s, addF_int, subF_int, ltF_int, leF_int, gtF_int, geF_int, eqF_int, neF_int, eqF_str, neF_str, andF_true, andF_false, orF_true, orF_false, isiF_list, isiF_str, isiF_int, isiF_bool, modF_lit, divF_lit, negF_int, notF_bool, asIntR_int, intF_bool, maxF_two, isF_int_none, isF_none_none, isF_list_none, itemF_tup0, itemF_tup1, methF_str, Nat.reduceLT, decide_true, decide_false, beq_self_eq_true, Bool.not_true, Bool.not_false, itemLv_int, itemLv_str, itemLv_list, itemLv_bool, itemLv_none, lvOf_strs, lvOf_ints, ne_eq, not_false_eq_true, not_true_eq_false, a_sums_from_1, fr, tupF_ints]) rfl
      simp -implicitDefEqProofs only [getV_s, getV_z, bindR_ok, bindR_exc, bindE_ok, bindE_exc, bindO_next, bindO_ret, bindO_exc, bindO_raise, bindO_brk, bindO_cont, setV_int, setV_str, setV_bool, setV_none, setV_list2, List.set_cons_succ, List.set_cons_zero, truthD_bool, Option.map_some, if_true, if_false, Bool.false_eq_true, retV_z, retV_s, addF_int, subF_int, ltF_int, leF_int, gtF_int, geF_int, eqF_int, neF_int, eqF_str, neF_str, andF_true, andF_false, orF_true, orF_false, isiF_list, isiF_str, isiF_int, isiF_bool, modF_lit, divF_lit, negF_int, notF_bool, asIntR_int, intF_bool, maxF_two, isF_int_none, isF_none_none, isF_list_none, itemF_tup0, itemF_tup1, methF_str, Nat.reduceLT, decide_true, decide_false, beq_self_eq_true, Bool.not_true, Bool.not_false, itemLv_int, itemLv_str, itemLv_list, itemLv_bool, itemLv_none, lvOf_strs, lvOf_ints, ne_eq, not_false_eq_true, not_true_eq_false, b_sums_from_1, fr, x3, x1, x2, x4, x5, lenF_map _ _ hlb, he']
      rw [show appF [6] 4 a_sums_from_1 [some (.list (ws.map .str), 0), some (.int w, 2), some (.list (T.map .int), 0), some (.int (a : Int), 2), some (.list (((List.range i).map fun i => (a + 1 + i, costT ws w T a (a + 1 + i))).map pairD), 2), some (.int (sz ws a (a + 1 + i) : Int), 2), some (.int ((a + 1 + i : Nat) : Int), 2)] = _ from hap]
      simp -implicitDefEqProofs only [getV_s, getV_z, bindR_ok, bindR_exc, bindE_ok, bindE_exc, bindO_next, bindO_ret, bindO_exc, bindO_raise, bindO_brk, bindO_cont, setV_int, setV_str, setV_bool, setV_none, setV_list2, List.set_cons_succ, List.set_cons_zero, truthD_bool, Option.map_some, if_true, if_false, Bool.false_eq_true, retV_z, retV_s, addF_int, subF_int, ltF_int, leF_int, gtF_int, geF_int, eqF_int, neF_int, eqF_str, neF_str, andF_true, andF_false, orF_true, orF_false, isiF_list, isiF_str, isiF_int, isiF_bool, modF_lit, divF_lit, negF_int, notF_bool, asIntR_int, intF_bool, maxF_two, isF_int_none, isF_none_none, isF_list_none, itemF_tup0, itemF_tup1, methF_str, Nat.reduceLT, decide_true, decide_false, beq_self_eq_true, Bool.not_true, Bool.not_false, itemLv_int, itemLv_str, itemLv_list, itemLv_bool, itemLv_none, lvOf_strs, lvOf_ints, ne_eq, not_false_eq_true, not_true_eq_false, fr, hmap 0 hv, sI]
    · have he' : (((a + 1 + i : Nat) : Int) == (ws.length : Int)) = false := by simp; omega
      have y1 := itemF_at D.int T (a + 1 + i) _ (getD_some 0 (show a + 1 + i < T.length by omega)) hTb
      have hszle := sz_leS (ws := ws) (show a ≤ a + 1 + i by omega) (by omega) hl hw
      have y2 := mulF_int (w - (sz ws a (a + 1 + i) : Nat)) (w - (sz ws a (a + 1 + i) : Nat)) (mulOk_sq (by omega))
      have hv : (w - (sz ws a (a + 1 + i) : Nat)) * (w - (sz ws a (a + 1 + i) : Nat)) + T.getD (a + 1 + i) 0 = costT ws w T a (a + 1 + i) := by unfold costT; rw [if_neg he]
      have hap := appF_flat (occ := [6, 1, 5, 1, 5, 2, 6]) (i := 4) (f := a_sums_from_2) (Γ := fr i (sz ws a (a + 1 + i) : Int) (some (.int ((a + 1 + i : Nat) : Int), 2))) rfl (by decide) hlen (d := .tup [.int ((a + 1 + i : Nat) : Int), .int ((w - (sz ws a (a + 1 + i) : Nat)) * (w - (sz ws a (a + 1 + i) : Nat)) + T.getD (a + 1 + i) 0)]) (lv' := 2) (by simp -implicitDefEqProofs only [getV_s, getV_z, bindR_ok, bindR_exc, bindE_ok, bindE_exc, bindO_next, bindO_ret, bindO_exc, bindO_raise, bindO_brk, bindO_cont, setV_int, setV_str, setV_bool, setV_none, setV_list2, List.set_cons_succ, List.set_cons_zero, truthD_bool, Option.map_some, if_true, if_false, Bool.false_eq_true, retV_z, retV_s, addF_int, subF_int, ltF_int, leF_int, gtF_int, geF_int, eqF_int, neF_int, eqF_str, neF_str, andF_true, andF_false, orF_true, orF_false, isiF_list, isiF_str, isiF_int, isiF_bool, modF_lit, divF_lit, negF_int, notF_bool, asIntR_int, intF_bool, maxF_two, isF_int_none, isF_none_none, isF_list_none, itemF_tup0, itemF_tup1, methF_str, Nat.reduceLT, decide_true, decide_false, beq_self_eq_true, Bool.not_true, Bool.not_false, itemLv_int, itemLv_str, itemLv_list, itemLv_bool, itemLv_none, lvOf_strs, lvOf_ints, ne_eq, not_false_eq_true, not_true_eq_false, a_sums_from_2, fr, y2, y1, tupF_ints]) rfl
      simp -implicitDefEqProofs only [getV_s, getV_z, bindR_ok, bindR_exc, bindE_ok, bindE_exc, bindO_next, bindO_ret, bindO_exc, bindO_raise, bindO_brk, bindO_cont, setV_int, setV_str, setV_bool, setV_none, setV_list2, List.set_cons_succ, List.set_cons_zero, truthD_bool, Option.map_some, if_true, if_false, Bool.false_eq_true, retV_z, retV_s, addF_int, subF_int, ltF_int, leF_int, gtF_int, geF_int, eqF_int, neF_int, eqF_str, neF_str, andF_true, andF_false, orF_true, orF_false, isiF_list, isiF_str, isiF_int, isiF_bool, modF_lit, divF_lit, negF_int, notF_bool, asIntR_int, intF_bool, maxF_two, isF_int_none, isF_none_none, isF_list_none, itemF_tup0, itemF_tup1, methF_str, Nat.reduceLT, decide_true, decide_false, beq_self_eq_true, Bool.not_true, Bool.not_false, itemLv_int, itemLv_str, itemLv_list, itemLv_bool, itemLv_none, lvOf_strs, lvOf_ints, ne_eq, not_false_eq_true, not_true_eq_false, b_sums_from_1, fr, x3, x1, x2, x4, x5, lenF_map _ _ hlb, he']
      rw [show appF [6, 1, 5, 1, 5, 2, 6] 4 a_sums_from_2 [some (.list (ws.map .str), 0), some (.int w, 2), some (.list (T.map .int), 0), some (.int (a : Int), 2), some (.list (((List.range i).map fun i => (a + 1 + i, costT ws w T a (a + 1 + i))).map pairD), 2), some (.int (sz ws a (a + 1 + i) : Int), 2), some (.int ((a + 1 + i : Nat) : Int), 2)] = _ from hap]
      simp -implicitDefEqProofs only [getV_s, getV_z, bindR_ok, bindR_exc, bindE_ok, bindE_exc, bindO_next, bindO_ret, bindO_exc, bindO_raise, bindO_brk, bindO_cont, setV_int, setV_str, setV_bool, setV_none, setV_list2, List.set_cons_succ, List.set_cons_zero, truthD_bool, Option.map_some, if_true, if_false, Bool.false_eq_true, retV_z, retV_s, addF_int, subF_int, ltF_int, leF_int, gtF_int, geF_int, eqF_int, neF_int, eqF_str, neF_str, andF_true, andF_false, orF_true, orF_false, isiF_list, isiF_str, isiF_int, isiF_bool, modF_lit, divF_lit, negF_int, notF_bool, asIntR_int, intF_bool, maxF_two, isF_int_none, isF_none_none, isF_list_none, itemF_tup0, itemF_tup1, methF_str, Nat.reduceLT, decide_true, decide_false, beq_self_eq_true, Bool.not_true, Bool.not_false, itemLv_int, itemLv_str, itemLv_list, itemLv_bool, itemLv_none, lvOf_strs, lvOf_ints, ne_eq, not_false_eq_true, not_true_eq_false, fr, hmap _ hv, sI]
  have hr : rngF [.int ((a : Int) + 1), .int ((ws.length : Int) + 1)] = some (.ok ((List.range (ws.length - a)).map fun (i : Nat) => .int ((a + 1 + i : Nat) : Int))) := by
    have := rngF_two (a + 1) (ws.length + 1) (by omega) (by first | exact le_lim (by assumption) | exact le_lim6 (by assumption) | (unfold lim; omega))
    rw [show ws.length + 1 - (a + 1) = ws.length - a by omega] at this
    exact this
  have hfit := fitN_le ws w a
  have e3 : ∃ s v, s_sums_from_3 (fr 0 (-1) none) = some (.next (fr (fitN ws w a) s v)) := by
    unfold s_sums_from_3
    rw [forF_of (by simp -implicitDefEqProofs only [getV_s, getV_z, bindR_ok, bindR_exc, bindE_ok, bindE_exc, bindO_next, bindO_ret, bindO_exc, bindO_raise, bindO_brk, bindO_cont, setV_int, setV_str, setV_bool, setV_none, setV_list2, List.set_cons_succ, List.set_cons_zero, truthD_bool, Option.map_some, if_true, if_false, Bool.false_eq_true, retV_z, retV_s, addF_int, subF_int, ltF_int, leF_int, gtF_int, geF_int, eqF_int, neF_int, eqF_str, neF_str, andF_true, andF_false, orF_true, orF_false, isiF_list, isiF_str, isiF_int, isiF_bool, modF_lit, divF_lit, negF_int, notF_bool, asIntR_int, intF_bool, maxF_two, isF_int_none, isF_none_none, isF_list_none, itemF_tup0, itemF_tup1, methF_str, Nat.reduceLT, decide_true, decide_false, beq_self_eq_true, Bool.not_true, Bool.not_false, itemLv_int, itemLv_str, itemLv_list, itemLv_bool, itemLv_none, lvOf_strs, lvOf_ints, ne_eq, not_false_eq_true, not_true_eq_false, fr, lenF_map _ _ hlb, hr]; rfl)]
    rw [show dropL [] (fr 0 (-1) none) = fr 0 (sI 0) none from rfl]
    by_cases hlt : fitN ws w a < ws.length - a
    · have hout := fitN_out hlt
      have x1 := itemF_at D.str ws (a + fitN ws w a) _ (getD_some [] (show a + fitN ws w a < ws.length by omega)) hlb
      have x2 := lenF_str _ (show (ws.getD (a + fitN ws w a) []).length ≤ big by have := mem_sum (List.mem_of_getElem? (getD_some [] (show a + fitN ws w a < ws.length by omega))); first | exact le_big (by assumption) | exact le_big6 (by assumption) | (unfold big; omega))
      have x3 : ((a + 1 + fitN ws w a : Nat) : Int) - 1 = ((a + fitN ws w a : Nat) : Int) := by omega
      have x4 := hsI (fitN ws w a) (by omega)
      exact ⟨_, _, loopF_range_brk (Γb := fr (fitN ws w a) (sz ws a (a + 1 + fitN ws w a) : Int) (some (.int ((a + 1 + fitN ws w a : Nat) : Int), 2))) (fun (i : Nat) => D.int ((a + 1 + i : Nat) : Int)) (fun i v => fr i (sI i) v) (fun _ _ _ => rfl) (fitN ws w a) (ws.length - a) none hlt (fun i hi => ⟨_, hstep i (by omega) (fitN_in hi)⟩) (by
        simp -implicitDefEqProofs only [getV_s, getV_z, bindR_ok, bindR_exc, bindE_ok, bindE_exc, bindO_next, bindO_ret, bindO_exc, bindO_raise, bindO_brk, bindO_cont, setV_int, setV_str, setV_bool, setV_none, setV_list2, List.set_cons_succ, List.set_cons_zero, truthD_bool, Option.map_some, if_true, if_false, Bool.false_eq_true, retV_z, retV_s, addF_int, subF_int, ltF_int, leF_int, gtF_int, geF_int, eqF_int, neF_int, eqF_str, neF_str, andF_true, andF_false, orF_true, orF_false, isiF_list, isiF_str, isiF_int, isiF_bool, modF_lit, divF_lit, negF_int, notF_bool, asIntR_int, intF_bool, maxF_two, isF_int_none, isF_none_none, isF_list_none, itemF_tup0, itemF_tup1, methF_str, Nat.reduceLT, decide_true, decide_false, beq_self_eq_true, Bool.not_true, Bool.not_false, itemLv_int, itemLv_str, itemLv_list, itemLv_bool, itemLv_none, lvOf_strs, lvOf_ints, ne_eq, not_false_eq_true, not_true_eq_false, b_sums_from_1, fr, x3, x1, x2, x4, hout])⟩
    · obtain ⟨v, e⟩ := loopF_range (fB := b_sums_from_1) (ix := 6) (fun (i : Nat) => D.int ((a + 1 + i : Nat) : Int)) (fun i v => fr i (sI i) v) (fun _ _ _ => rfl) (ws.length - a) none (fun i hi => ⟨_, hstep i (by omega) (fitN_in (by omega))⟩)
      rw [show ws.length - a = fitN ws w a by omega] at e ⊢
      exact ⟨_, _, e⟩
  obtain ⟨s, v, e3⟩ := e3
  unfold F_sums_from
  rw [fnF_of (by rfl), hg]
  unfold f_sums_from
  simp -implicitDefEqProofs only [getV_s, getV_z, bindR_ok, bindR_exc, bindE_ok, bindE_exc, bindO_next, bindO_ret, bindO_exc, bindO_raise, bindO_brk, bindO_cont, setV_int, setV_str, setV_bool, setV_none, setV_list2, List.set_cons_succ, List.set_cons_zero, truthD_bool, Option.map_some, if_true, if_false, Bool.false_eq_true, retV_z, retV_s, addF_int, subF_int, ltF_int, leF_int, gtF_int, geF_int, eqF_int, neF_int, eqF_str, neF_str, andF_true, andF_false, orF_true, orF_false, isiF_list, isiF_str, isiF_int, isiF_bool, modF_lit, divF_lit, negF_int, notF_bool, asIntR_int, intF_bool, maxF_two, isF_int_none, isF_none_none, isF_list_none, itemF_tup0, itemF_tup1, methF_str, Nat.reduceLT, decide_true, decide_false, beq_self_eq_true, Bool.not_true, Bool.not_false, itemLv_int, itemLv_str, itemLv_list, itemLv_bool, itemLv_none, lvOf_strs, lvOf_ints, ne_eq, not_false_eq_true, not_true_eq_false, s_sums_from_1, listF_nil, s_sums_from_2]
  rw [show s_sums_from_3 [some (.list (ws.map .str), 0), some (.int w, 2), some (.list (T.map .int), 0), some (.int (a : Int), 2), some (.list [], 2), some (.int (-1), 2), none] = _ from e3]
  simp -implicitDefEqProofs only [getV_s, getV_z, bindR_ok, bindR_exc, bindE_ok, bindE_exc, bindO_next, bindO_ret, bindO_exc, bindO_raise, bindO_brk, bindO_cont, setV_int, setV_str, setV_bool, setV_none, setV_list2, List.set_cons_succ, List.set_cons_zero, truthD_bool, Option.map_some, if_true, if_false, Bool.false_eq_true, retV_z, retV_s, addF_int, subF_int, ltF_int, leF_int, gtF_int, geF_int, eqF_int, neF_int, eqF_str, neF_str, andF_true, andF_false, orF_true, orF_false, isiF_list, isiF_str, isiF_int, isiF_bool, modF_lit, divF_lit, negF_int, notF_bool, asIntR_int, intF_bool, maxF_two, isF_int_none, isF_none_none, isF_list_none, itemF_tup0, itemF_tup1, methF_str, Nat.reduceLT, decide_true, decide_false, beq_self_eq_true, Bool.not_true, Bool.not_false, itemLv_int, itemLv_str, itemLv_list, itemLv_bool, itemLv_none, lvOf_strs, lvOf_ints, ne_eq, not_false_eq_true, not_true_eq_false, fr, s_sums_from_4]
  rfl
theorem table_of_ok (ws : List (List Nat)) (w : Int) (h : 1 ≤ w) (hl : ws.length ≤ 90000) (hw : (ws.map List.length).sum ≤ 3000000) (hwb : w.natAbs ≤ 1000000000000000000000000000000000000) (hb : ∀ x ∈ ws, (x.length : Int) ≤ w) : F_table_of [.list (ws.map .str), .int w] = some (.ok (.list ((tab ws w).map .int), 2)) := by
  have hg : argG 2 [.list (ws.map D.str), .int w] = [some (.list (ws.map .str), 0), some (.int w, 2), none, none] := rfl
  have hll : ws.length ≤ lim := by first | exact le_lim (by assumption) | exact le_lim6 (by assumption) | (unfold lim; omega)
  have hlb : ws.length ≤ big := by first | exact le_big (by assumption) | exact le_big6 (by assumption) | (unfold big; omega)
  have hwbig : ∀ w ∈ ws, w.length ≤ big := fun x hx => by have := mem_sum hx; first | exact le_big (by assumption) | exact le_big6 (by assumption) | (unfold big; omega)
  have hc := compF_src (fE := e_table_of_1) (cap := []) (Γ := [some (.list (ws.map .str), 0), some (.int w, 2), none, none]) (fun (i : Nat) => D.int (i : Int)) (fun _ => .int 0) (List.range (ws.length + 1)) (fun i _ => ⟨2, rfl⟩)
  have hm : (List.range (ws.length + 1)).map (fun _ => D.int 0) = (tabN ws w 0).map .int := by
    rw [List.map_const', List.length_range]; simp [tabN]
  rw [hm, lvOf_ints] at hc
  have hr0 : rngF [.int ((ws.length : Int) + 1)] = _ := rngF_nat (ws.length + 1) (by first | exact le_lim (by assumption) | exact le_lim6 (by assumption) | (unfold lim; omega))
  obtain ⟨v, e⟩ := loopF_range (fB := b_table_of_1) (ix := 3) (fun (i : Nat) => D.int (((ws.length : Int) - 1) - i)) (fun i v => [some (.list (ws.map .str), 0), some (.int w, 2), some (.list ((tabN ws w i).map .int), 2), v]) (fun _ _ _ => rfl) ws.length none (by
    intro i hi
    have ha : ws.length - 1 - i < ws.length := by omega
    have hTl := tabN_len ws w i
    have hcast : ((ws.length : Int) - 1) - i = ((ws.length - 1 - i : Nat) : Int) := by omega
    have hs := sums_from_ok ws w (tabN ws w i) (ws.length - 1 - i) 0 0 hl hw hwb hTl ha
    generalize hS : sumsL ws w (tabN ws w i) (ws.length - 1 - i) = S at hs
    have hSl : S.length ≤ lim := by rw [← hS]; unfold sumsL; rw [List.length_map, List.length_range]; have := fitN_le ws w (ws.length - 1 - i); first | exact le_lim (by assumption) | exact le_lim6 (by assumption) | (unfold lim; omega)
    have hSne : S.map (·.2) ≠ [] := by
      have := fitN_pos ha hb
      rw [← hS]; unfold sumsL
      intro e
      have := congrArg List.length e
      simp at this; omega
    have hc2 := compF_src (fE := e_table_of_2) (cap := []) (Γ := [some (.list (ws.map .str), 0), some (.int w, 2), some (.list ((tabN ws w i).map .int), 2), some (.int ((ws.length - 1 - i : Nat) : Int), 2)]) pairD (fun p => .int p.2) S (fun p _ => ⟨0, by simp -implicitDefEqProofs only [getV_s, getV_z, bindR_ok, bindR_exc, bindE_ok, bindE_exc, bindO_next, bindO_ret, bindO_exc, bindO_raise, bindO_brk, bindO_cont, setV_int, setV_str, setV_bool, setV_none, setV_list2, List.set_cons_succ, List.set_cons_zero, truthD_bool, Option.map_some, if_true, if_false, Bool.false_eq_true, retV_z, retV_s, addF_int, subF_int, ltF_int, leF_int, gtF_int, geF_int, eqF_int, neF_int, eqF_str, neF_str, andF_true, andF_false, orF_true, orF_false, isiF_list, isiF_str, isiF_int, isiF_bool, modF_lit, divF_lit, negF_int, notF_bool, asIntR_int, intF_bool, maxF_two, isF_int_none, isF_none_none, isF_list_none, itemF_tup0, itemF_tup1, methF_str, Nat.reduceLT, decide_true, decide_false, beq_self_eq_true, Bool.not_true, Bool.not_false, itemLv_int, itemLv_str, itemLv_list, itemLv_bool, itemLv_none, lvOf_strs, lvOf_ints, ne_eq, not_false_eq_true, not_true_eq_false, e_table_of_2, compG, pairD]⟩)
    have hm2 : S.map (fun p => D.int p.2) = (S.map (·.2)).map .int := by rw [List.map_map]; rfl
    rw [hm2, lvOf_ints] at hc2
    have hset := setF_flat (occ := [0, 1, 2, 3]) (i := 2) (f := a_table_of_1) (g := fun Γ => getV 3 Γ) (Γ := [some (.list (ws.map .str), 0), some (.int w, 2), some (.list ((tabN ws w i).map .int), 2), some (.int ((ws.length - 1 - i : Nat) : Int), 2)]) rfl (by decide) (by rw [List.length_map, hTl]; first | exact le_lim (by assumption) | exact le_lim6 (by assumption) | (unfold lim; omega)) (d := .int (minL (S.map (·.2)))) (lv' := 2) (by simp -implicitDefEqProofs only [getV_s, getV_z, bindR_ok, bindR_exc, bindE_ok, bindE_exc, bindO_next, bindO_ret, bindO_exc, bindO_raise, bindO_brk, bindO_cont, setV_int, setV_str, setV_bool, setV_none, setV_list2, List.set_cons_succ, List.set_cons_zero, truthD_bool, Option.map_some, if_true, if_false, Bool.false_eq_true, retV_z, retV_s, addF_int, subF_int, ltF_int, leF_int, gtF_int, geF_int, eqF_int, neF_int, eqF_str, neF_str, andF_true, andF_false, orF_true, orF_false, isiF_list, isiF_str, isiF_int, isiF_bool, modF_lit, divF_lit, negF_int, notF_bool, asIntR_int, intF_bool, maxF_two, isF_int_none, isF_none_none, isF_list_none, itemF_tup0, itemF_tup1, methF_str, Nat.reduceLT, decide_true, decide_false, beq_self_eq_true, Bool.not_true, Bool.not_false, itemLv_int, itemLv_str, itemLv_list, itemLv_bool, itemLv_none, lvOf_strs, lvOf_ints, ne_eq, not_false_eq_true, not_true_eq_false, a_table_of_1, hs, itF_map _ _ _ hSl, hc2, minF_ints _ hSne]) rfl (k := ws.length - 1 - i) (lv'' := 0) rfl (by rw [List.length_map, hTl]; omega)
    have hm3 : ((tabN ws w i).map D.int).set (ws.length - 1 - i) (.int (minL (S.map (·.2)))) = (tabN ws w (i + 1)).map .int := by
      rw [tabN, tstep, hS, List.map_set]
    rw [hm3] at hset
    rw [hcast]
    exact ⟨_, by simp -implicitDefEqProofs only [getV_s, getV_z, bindR_ok, bindR_exc, bindE_ok, bindE_exc, bindO_next, bindO_ret, bindO_exc, bindO_raise, bindO_brk, bindO_cont, setV_int, setV_str, setV_bool, setV_none, setV_list2, List.set_cons_succ, List.set_cons_zero, truthD_bool, Option.map_some, if_true, if_false, Bool.false_eq_true, retV_z, retV_s, addF_int, subF_int, ltF_int, leF_int, gtF_int, geF_int, eqF_int, neF_int, eqF_str, neF_str, andF_true, andF_false, orF_true, orF_false, isiF_list, isiF_str, isiF_int, isiF_bool, modF_lit, divF_lit, negF_int, notF_bool, asIntR_int, intF_bool, maxF_two, isF_int_none, isF_none_none, isF_list_none, itemF_tup0, itemF_tup1, methF_str, Nat.reduceLT, decide_true, decide_false, beq_self_eq_true, Bool.not_true, Bool.not_false, itemLv_int, itemLv_str, itemLv_list, itemLv_bool, itemLv_none, lvOf_strs, lvOf_ints, ne_eq, not_false_eq_true, not_true_eq_false, b_table_of_1, hset]; rfl⟩)
  have e3 : s_table_of_3 [some (.list (ws.map .str), 0), some (.int w, 2), some (.list ((tabN ws w 0).map .int), 2), none] = some (.next [some (.list (ws.map .str), 0), some (.int w, 2), some (.list ((tab ws w).map .int), 2), v]) := by
    unfold s_table_of_3
    rw [forF_of (by simp -implicitDefEqProofs only [getV_s, getV_z, bindR_ok, bindR_exc, bindE_ok, bindE_exc, bindO_next, bindO_ret, bindO_exc, bindO_raise, bindO_brk, bindO_cont, setV_int, setV_str, setV_bool, setV_none, setV_list2, List.set_cons_succ, List.set_cons_zero, truthD_bool, Option.map_some, if_true, if_false, Bool.false_eq_true, retV_z, retV_s, addF_int, subF_int, ltF_int, leF_int, gtF_int, geF_int, eqF_int, neF_int, eqF_str, neF_str, andF_true, andF_false, orF_true, orF_false, isiF_list, isiF_str, isiF_int, isiF_bool, modF_lit, divF_lit, negF_int, notF_bool, asIntR_int, intF_bool, maxF_two, isF_int_none, isF_none_none, isF_list_none, itemF_tup0, itemF_tup1, methF_str, Nat.reduceLT, decide_true, decide_false, beq_self_eq_true, Bool.not_true, Bool.not_false, itemLv_int, itemLv_str, itemLv_list, itemLv_bool, itemLv_none, lvOf_strs, lvOf_ints, ne_eq, not_false_eq_true, not_true_eq_false, lenF_map _ _ hlb, rngF_down _ hll]; rfl)]
    exact e
  unfold F_table_of
  rw [fnF_of (by rfl), hg]
  unfold f_table_of
  simp -implicitDefEqProofs only [getV_s, getV_z, bindR_ok, bindR_exc, bindE_ok, bindE_exc, bindO_next, bindO_ret, bindO_exc, bindO_raise, bindO_brk, bindO_cont, setV_int, setV_str, setV_bool, setV_none, setV_list2, List.set_cons_succ, List.set_cons_zero, truthD_bool, Option.map_some, if_true, if_false, Bool.false_eq_true, retV_z, retV_s, addF_int, subF_int, ltF_int, leF_int, gtF_int, geF_int, eqF_int, neF_int, eqF_str, neF_str, andF_true, andF_false, orF_true, orF_false, isiF_list, isiF_str, isiF_int, isiF_bool, modF_lit, divF_lit, negF_int, notF_bool, asIntR_int, intF_bool, maxF_two, isF_int_none, isF_none_none, isF_list_none, itemF_tup0, itemF_tup1, methF_str, Nat.reduceLT, decide_true, decide_false, beq_self_eq_true, Bool.not_true, Bool.not_false, itemLv_int, itemLv_str, itemLv_list, itemLv_bool, itemLv_none, lvOf_strs, lvOf_ints, ne_eq, not_false_eq_true, not_true_eq_false, s_table_of_1, need_words_ok ws w h hll hwbig hb, s_table_of_2, lenF_map _ _ hlb, hr0]
  rw [show compF e_table_of_1 (fun _ => some (.ok true)) [] [some (.list (ws.map .str), 0), some (.int w, 2), none, none] ((List.range (ws.length + 1)).map fun (i : Nat) => D.int (i : Int)) = _ from hc]
  simp -implicitDefEqProofs only [getV_s, getV_z, bindR_ok, bindR_exc, bindE_ok, bindE_exc, bindO_next, bindO_ret, bindO_exc, bindO_raise, bindO_brk, bindO_cont, setV_int, setV_str, setV_bool, setV_none, setV_list2, List.set_cons_succ, List.set_cons_zero, truthD_bool, Option.map_some, if_true, if_false, Bool.false_eq_true, retV_z, retV_s, addF_int, subF_int, ltF_int, leF_int, gtF_int, geF_int, eqF_int, neF_int, eqF_str, neF_str, andF_true, andF_false, orF_true, orF_false, isiF_list, isiF_str, isiF_int, isiF_bool, modF_lit, divF_lit, negF_int, notF_bool, asIntR_int, intF_bool, maxF_two, isF_int_none, isF_none_none, isF_list_none, itemF_tup0, itemF_tup1, methF_str, Nat.reduceLT, decide_true, decide_false, beq_self_eq_true, Bool.not_true, Bool.not_false, itemLv_int, itemLv_str, itemLv_list, itemLv_bool, itemLv_none, lvOf_strs, lvOf_ints, ne_eq, not_false_eq_true, not_true_eq_false, e3, s_table_of_4]
  rfl
theorem best_go (ws : List (List Nat)) (w : Int) (T : List Int) (hl : ws.length ≤ 90000) (hw : (ws.map List.length).sum ≤ 3000000) (hwb : w.natAbs ≤ 1000000000000000000000000000000000000) (hR : Right ws w T) : ∀ (k fuel a : Nat) (acc : List Nat), ws.length - a ≤ k → k + 1 ≤ fuel → a ≤ ws.length → acc.length ≤ a →
    whileF t_best_starts_1 b_best_starts_1 fuel [some (.list (ws.map .str), 0), some (.int w, 2), some (.list (T.map .int), 2), some (.list ((nz acc).map .int), 2), some (.int (a : Int), 2)] =
      some (.next [some (.list (ws.map .str), 0), some (.int w, 2), some (.list (T.map .int), 2), some (.list ((nz (acc ++ bl ws w T k a)).map .int), 2), some (.int (ws.length : Int), 2)]) := by
  have hlb : ws.length ≤ big := by first | exact le_big (by assumption) | exact le_big6 (by assumption) | (unfold big; omega)
  have hTb : T.length ≤ big := by rw [hR.1]; first | exact le_big (by assumption) | exact le_big6 (by assumption) | (unfold big; omega)
  intro k
  induction k with
  | zero =>
    intro fuel a acc h1 h2 h3 h4
    obtain ⟨f, rfl⟩ : ∃ f, fuel = f + 1 := ⟨fuel - 1, by omega⟩
    have he : a = ws.length := by omega
    subst he
    have hlt : ¬ ((ws.length : Int) < ws.length) := by omega
    rw [bl, List.append_nil]
    exact whileF_end (by simp only [getV_s, getV_z, bindR_ok, bindR_exc, bindE_ok, bindE_exc, bindO_next, bindO_ret, bindO_exc, bindO_raise, bindO_brk, bindO_cont, setV_int, setV_str, setV_bool, setV_none, setV_list2, List.set_cons_succ, List.set_cons_zero, truthD_bool, Option.map_some, if_true, if_false, Bool.false_eq_true, retV_z, retV_s, addF_int, subF_int, ltF_int, leF_int, gtF_int, geF_int, eqF_int, neF_int, eqF_str, neF_str, andF_true, andF_false, orF_true, orF_false, isiF_list, isiF_str, isiF_int, isiF_bool, modF_lit, divF_lit, negF_int, notF_bool, asIntR_int, intF_bool, maxF_two, isF_int_none, isF_none_none, isF_list_none, itemF_tup0, itemF_tup1, methF_str, Nat.reduceLT, decide_true, decide_false, beq_self_eq_true, Bool.not_true, Bool.not_false, itemLv_int, itemLv_str, itemLv_list, itemLv_bool, itemLv_none, lvOf_strs, lvOf_ints, ne_eq, not_false_eq_true, not_true_eq_false, t_best_starts_1, lenF_map _ _ hlb, hlt])
  | succ k ih =>
    intro fuel a acc h1 h2 h3 h4
    obtain ⟨f, rfl⟩ : ∃ f, fuel = f + 1 := ⟨fuel - 1, by omega⟩
    by_cases ha : a < ws.length
    · have hlt : ((a : Int) < ws.length) := by omega
      obtain ⟨n1, n2, n3, n4, n5⟩ := nxtB_in hR ha
      have hs := sums_from_ok ws w T a 0 0 hl hw hwb hR.1 ha
      obtain ⟨m1, m2⟩ := nxtB_max (hR.2.2 a ha).2
      have hSl : (sumsL ws w T a).length ≤ lim := by unfold sumsL; rw [List.length_map, List.length_range]; have := fitN_le ws w a; first | exact le_lim (by assumption) | exact le_lim6 (by assumption) | (unfold lim; omega)
      have xa := itemF_at D.int T a _ (getD_some 0 (show a < T.length by rw [hR.1]; omega)) hTb
      have hc : compF e_best_starts_1 c_best_starts_1 [2, 4] [some (.list (ws.map .str), 0), some (.int w, 2), some (.list (T.map .int), 2), some (.list ((nz (acc ++ [a])).map .int), 2), some (.int (a : Int), 2)] ((sumsL ws w T a).map pairD) = some (.ok (.list ((((sumsL ws w T a).filter fun p => p.2 == T.getD a 0).map fun p => (p.1 : Int)).map .int), 2)) := by
        have := compF_of (compD_srcF (fE := e_best_starts_1) (fC := c_best_starts_1) (cap := [2, 4]) (Γ := [some (.list (ws.map .str), 0), some (.int w, 2), some (.list (T.map .int), 2), some (.list ((nz (acc ++ [a])).map .int), 2), some (.int (a : Int), 2)]) pairD (fun p => p.2 == T.getD a 0) (fun p => .int (p.1 : Int)) (sumsL ws w T a) (by
          intro p hp
          refine ⟨by simp only [getV_s, getV_z, bindR_ok, bindR_exc, bindE_ok, bindE_exc, bindO_next, bindO_ret, bindO_exc, bindO_raise, bindO_brk, bindO_cont, setV_int, setV_str, setV_bool, setV_none, setV_list2, List.set_cons_succ, List.set_cons_zero, truthD_bool, Option.map_some, if_true, if_false, Bool.false_eq_true, retV_z, retV_s, addF_int, subF_int, ltF_int, leF_int, gtF_int, geF_int, eqF_int, neF_int, eqF_str, neF_str, andF_true, andF_false, orF_true, orF_false, isiF_list, isiF_str, isiF_int, isiF_bool, modF_lit, divF_lit, negF_int, notF_bool, asIntR_int, intF_bool, maxF_two, isF_int_none, isF_none_none, isF_list_none, itemF_tup0, itemF_tup1, methF_str, Nat.reduceLT, decide_true, decide_false, beq_self_eq_true, Bool.not_true, Bool.not_false, itemLv_int, itemLv_str, itemLv_list, itemLv_bool, itemLv_none, lvOf_strs, lvOf_ints, ne_eq, not_false_eq_true, not_true_eq_false, c_best_starts_1, compG, pairD, List.map_cons, List.map_nil, List.getElem?_cons_zero, List.getElem?_cons_succ, Option.join_some, xa], fun _ => ⟨0, by simp only [getV_s, getV_z, bindR_ok, bindR_exc, bindE_ok, bindE_exc, bindO_next, bindO_ret, bindO_exc, bindO_raise, bindO_brk, bindO_cont, setV_int, setV_str, setV_bool, setV_none, setV_list2, List.set_cons_succ, List.set_cons_zero, truthD_bool, Option.map_some, if_true, if_false, Bool.false_eq_true, retV_z, retV_s, addF_int, subF_int, ltF_int, leF_int, gtF_int, geF_int, eqF_int, neF_int, eqF_str, neF_str, andF_true, andF_false, orF_true, orF_false, isiF_list, isiF_str, isiF_int, isiF_bool, modF_lit, divF_lit, negF_int, notF_bool, asIntR_int, intF_bool, maxF_two, isF_int_none, isF_none_none, isF_list_none, itemF_tup0, itemF_tup1, methF_str, Nat.reduceLT, decide_true, decide_false, beq_self_eq_true, Bool.not_true, Bool.not_false, itemLv_int, itemLv_str, itemLv_list, itemLv_bool, itemLv_none, lvOf_strs, lvOf_ints, ne_eq, not_false_eq_true, not_true_eq_false, e_best_starts_1, compG, pairD]⟩⟩))
        rw [show ((sumsL ws w T a).filter fun p => p.2 == T.getD a 0).map (fun p => D.int (p.1 : Int)) = (((sumsL ws w T a).filter fun p => p.2 == T.getD a 0).map fun p => (p.1 : Int)).map .int from by rw [List.map_map]; rfl, lvOf_ints] at this
        exact this
      have hap := appF_flat (occ := [4]) (i := 3) (f := fun Γ => getV 4 Γ) (Γ := [some (.list (ws.map .str), 0), some (.int w, 2), some (.list (T.map .int), 2), some (.list ((nz acc).map .int), 2), some (.int (a : Int), 2)]) (d := .int (a : Int)) (lv' := 0) rfl (by decide) (by rw [List.length_map, nz_len]; first | exact le_lim (by assumption) | exact le_lim6 (by assumption) | (unfold lim; omega)) rfl rfl
      have hbody : b_best_starts_1 [some (.list (ws.map .str), 0), some (.int w, 2), some (.list (T.map .int), 2), some (.list ((nz acc).map .int), 2), some (.int (a : Int), 2)] =
          some (.next [some (.list (ws.map .str), 0), some (.int w, 2), some (.list (T.map .int), 2), some (.list ((nz (acc ++ [a])).map .int), 2), some (.int (nxtB ws w T a : Nat), 2)]) := by
        simp only [getV_s, getV_z, bindR_ok, bindR_exc, bindE_ok, bindE_exc, bindO_next, bindO_ret, bindO_exc, bindO_raise, bindO_brk, bindO_cont, setV_int, setV_str, setV_bool, setV_none, setV_list2, List.set_cons_succ, List.set_cons_zero, truthD_bool, Option.map_some, if_true, if_false, Bool.false_eq_true, retV_z, retV_s, addF_int, subF_int, ltF_int, leF_int, gtF_int, geF_int, eqF_int, neF_int, eqF_str, neF_str, andF_true, andF_false, orF_true, orF_false, isiF_list, isiF_str, isiF_int, isiF_bool, modF_lit, divF_lit, negF_int, notF_bool, asIntR_int, intF_bool, maxF_two, isF_int_none, isF_none_none, isF_list_none, itemF_tup0, itemF_tup1, methF_str, Nat.reduceLT, decide_true, decide_false, beq_self_eq_true, Bool.not_true, Bool.not_false, itemLv_int, itemLv_str, itemLv_list, itemLv_bool, itemLv_none, lvOf_strs, lvOf_ints, ne_eq, not_false_eq_true, not_true_eq_false, b_best_starts_1, hap, nz_snoc, hs, itF_map _ _ _ hSl, hc, maxF_ints _ m1, m2]
      have := ih f (nxtB ws w T a) (acc ++ [a]) (by omega) (by omega) n2 (by simp; omega)
      rw [bl, if_pos ha]
      rw [List.append_assoc] at this
      exact (whileF_go (by simp only [getV_s, getV_z, bindR_ok, bindR_exc, bindE_ok, bindE_exc, bindO_next, bindO_ret, bindO_exc, bindO_raise, bindO_brk, bindO_cont, setV_int, setV_str, setV_bool, setV_none, setV_list2, List.set_cons_succ, List.set_cons_zero, truthD_bool, Option.map_some, if_true, if_false, Bool.false_eq_true, retV_z, retV_s, addF_int, subF_int, ltF_int, leF_int, gtF_int, geF_int, eqF_int, neF_int, eqF_str, neF_str, andF_true, andF_false, orF_true, orF_false, isiF_list, isiF_str, isiF_int, isiF_bool, modF_lit, divF_lit, negF_int, notF_bool, asIntR_int, intF_bool, maxF_two, isF_int_none, isF_none_none, isF_list_none, itemF_tup0, itemF_tup1, methF_str, Nat.reduceLT, decide_true, decide_false, beq_self_eq_true, Bool.not_true, Bool.not_false, itemLv_int, itemLv_str, itemLv_list, itemLv_bool, itemLv_none, lvOf_strs, lvOf_ints, ne_eq, not_false_eq_true, not_true_eq_false, t_best_starts_1, lenF_map _ _ hlb, hlt]) hbody).trans this
    · have he : a = ws.length := by omega
      subst he
      have hlt : ¬ ((ws.length : Int) < ws.length) := by omega
      rw [bl, if_neg ha, List.append_nil]
      exact whileF_end (by simp only [getV_s, getV_z, bindR_ok, bindR_exc, bindE_ok, bindE_exc, bindO_next, bindO_ret, bindO_exc, bindO_raise, bindO_brk, bindO_cont, setV_int, setV_str, setV_bool, setV_none, setV_list2, List.set_cons_succ, List.set_cons_zero, truthD_bool, Option.map_some, if_true, if_false, Bool.false_eq_true, retV_z, retV_s, addF_int, subF_int, ltF_int, leF_int, gtF_int, geF_int, eqF_int, neF_int, eqF_str, neF_str, andF_true, andF_false, orF_true, orF_false, isiF_list, isiF_str, isiF_int, isiF_bool, modF_lit, divF_lit, negF_int, notF_bool, asIntR_int, intF_bool, maxF_two, isF_int_none, isF_none_none, isF_list_none, itemF_tup0, itemF_tup1, methF_str, Nat.reduceLT, decide_true, decide_false, beq_self_eq_true, Bool.not_true, Bool.not_false, itemLv_int, itemLv_str, itemLv_list, itemLv_bool, itemLv_none, lvOf_strs, lvOf_ints, ne_eq, not_false_eq_true, not_true_eq_false, t_best_starts_1, lenF_map _ _ hlb, hlt])
theorem best_starts_ok (ws : List (List Nat)) (w : Int) (h : 1 ≤ w) (hl : ws.length ≤ 90000) (hw : (ws.map List.length).sum ≤ 3000000) (hwb : w.natAbs ≤ 1000000000000000000000000000000000000) (hb : ∀ x ∈ ws, (x.length : Int) ≤ w) : F_best_starts [.list (ws.map .str), .int w] = some (.ok (.list ((nz (best ws w)).map .int), 2)) := by
  have hg : argG 3 [.list (ws.map D.str), .int w] = [some (.list (ws.map .str), 0), some (.int w, 2), none, none, none] := rfl
  have hgo := best_go ws w (tab ws w) hl hw hwb (tab_right hb) ws.length 100000 0 [] (by omega) (by omega) (by omega) (by simp)
  unfold F_best_starts
  rw [fnF_of (by rfl), hg]
  unfold f_best_starts
  simp only [getV_s, getV_z, bindR_ok, bindR_exc, bindE_ok, bindE_exc, bindO_next, bindO_ret, bindO_exc, bindO_raise, bindO_brk, bindO_cont, setV_int, setV_str, setV_bool, setV_none, setV_list2, List.set_cons_succ, List.set_cons_zero, truthD_bool, Option.map_some, if_true, if_false, Bool.false_eq_true, retV_z, retV_s, addF_int, subF_int, ltF_int, leF_int, gtF_int, geF_int, eqF_int, neF_int, eqF_str, neF_str, andF_true, andF_false, orF_true, orF_false, isiF_list, isiF_str, isiF_int, isiF_bool, modF_lit, divF_lit, negF_int, notF_bool, asIntR_int, intF_bool, maxF_two, isF_int_none, isF_none_none, isF_list_none, itemF_tup0, itemF_tup1, methF_str, Nat.reduceLT, decide_true, decide_false, beq_self_eq_true, Bool.not_true, Bool.not_false, itemLv_int, itemLv_str, itemLv_list, itemLv_bool, itemLv_none, lvOf_strs, lvOf_ints, ne_eq, not_false_eq_true, not_true_eq_false, s_best_starts_1, table_of_ok ws w h hl hw hwb hb, s_best_starts_2, listF_nil, s_best_starts_3]
  unfold s_best_starts_4
  rw [show whileF t_best_starts_1 b_best_starts_1 100000 [some (.list (ws.map .str), 0), some (.int w, 2), some (.list ((tab ws w).map .int), 2), some (.list [], 2), some (.int 0, 2)] = _ from hgo]
  simp only [getV_s, getV_z, bindR_ok, bindR_exc, bindE_ok, bindE_exc, bindO_next, bindO_ret, bindO_exc, bindO_raise, bindO_brk, bindO_cont, setV_int, setV_str, setV_bool, setV_none, setV_list2, List.set_cons_succ, List.set_cons_zero, truthD_bool, Option.map_some, if_true, if_false, Bool.false_eq_true, retV_z, retV_s, addF_int, subF_int, ltF_int, leF_int, gtF_int, geF_int, eqF_int, neF_int, eqF_str, neF_str, andF_true, andF_false, orF_true, orF_false, isiF_list, isiF_str, isiF_int, isiF_bool, modF_lit, divF_lit, negF_int, notF_bool, asIntR_int, intF_bool, maxF_two, isF_int_none, isF_none_none, isF_list_none, itemF_tup0, itemF_tup1, methF_str, Nat.reduceLT, decide_true, decide_false, beq_self_eq_true, Bool.not_true, Bool.not_false, itemLv_int, itemLv_str, itemLv_list, itemLv_bool, itemLv_none, lvOf_strs, lvOf_ints, ne_eq, not_false_eq_true, not_true_eq_false, s_best_starts_5]
  rfl

theorem words_of_ok (t : List Nat) (h : t.length ≤ 200000) : F_words_of [.str t] = some (.ok (.list ((wordsN t).map .str), 2)) := by
  have hg : argG 0 [.str t] = [some (.str t, 2)] := rfl
  have hrep : replF 10 32 (.str t, 0) = some (.ok (.str (replN t), 2)) := by
    unfold replF; simp only; rw [if_pos (by omega)]; rfl
  have hlr : (replN t).length ≤ 1000000 := by unfold replN; rw [List.length_map]; omega
  have hsp : splitF [.str (replN t), .str [32]] = some (.ok (.list ((splitN 32 (replN t)).map .str), 2)) := by
    unfold splitF; simp only; rw [if_pos hlr]
  have hsl : (splitN 32 (replN t)).length ≤ lim := by
    have := splitN_length 32 (replN t); unfold lim; omega
  have hc := compF_of (compD_srcF (fE := e_words_of_1) (fC := c_words_of_1) (cap := []) (Γ := [some (.str t, 2)]) D.str (fun x => decide (x ≠ [])) D.str (splitN 32 (replN t)) (by
    intro x _
    refine ⟨?_, fun _ => ⟨0, by simp only [getV_s, getV_z, bindR_ok, bindR_exc, bindE_ok, bindE_exc, bindO_next, bindO_ret, bindO_exc, bindO_raise, bindO_brk, bindO_cont, setV_int, setV_str, setV_bool, setV_none, setV_list2, List.set_cons_succ, List.set_cons_zero, truthD_bool, Option.map_some, if_true, if_false, Bool.false_eq_true, retV_z, retV_s, addF_int, subF_int, ltF_int, leF_int, gtF_int, geF_int, eqF_int, neF_int, eqF_str, neF_str, andF_true, andF_false, orF_true, orF_false, isiF_list, isiF_str, isiF_int, isiF_bool, modF_lit, divF_lit, negF_int, notF_bool, asIntR_int, intF_bool, maxF_two, isF_int_none, isF_none_none, isF_list_none, itemF_tup0, itemF_tup1, methF_str, Nat.reduceLT, decide_true, decide_false, beq_self_eq_true, Bool.not_true, Bool.not_false, itemLv_int, itemLv_str, itemLv_list, itemLv_bool, itemLv_none, lvOf_strs, lvOf_ints, ne_eq, not_false_eq_true, not_true_eq_false, e_words_of_1, compG]⟩⟩
    have hb : (!(x == ([] : List Nat))) = decide (x ≠ []) := by rw [Bool.eq_iff_iff]; simp
    simp only [getV_s, getV_z, bindR_ok, bindR_exc, bindE_ok, bindE_exc, bindO_next, bindO_ret, bindO_exc, bindO_raise, bindO_brk, bindO_cont, setV_int, setV_str, setV_bool, setV_none, setV_list2, List.set_cons_succ, List.set_cons_zero, truthD_bool, Option.map_some, if_true, if_false, Bool.false_eq_true, retV_z, retV_s, addF_int, subF_int, ltF_int, leF_int, gtF_int, geF_int, eqF_int, neF_int, eqF_str, neF_str, andF_true, andF_false, orF_true, orF_false, isiF_list, isiF_str, isiF_int, isiF_bool, modF_lit, divF_lit, negF_int, notF_bool, asIntR_int, intF_bool, maxF_two, isF_int_none, isF_none_none, isF_list_none, itemF_tup0, itemF_tup1, methF_str, Nat.reduceLT, decide_true, decide_false, beq_self_eq_true, Bool.not_true, Bool.not_false, itemLv_int, itemLv_str, itemLv_list, itemLv_bool, itemLv_none, lvOf_strs, lvOf_ints, ne_eq, not_false_eq_true, not_true_eq_false, c_words_of_1, compG]
    rw [hb]))
  have hw : (splitN 32 (replN t)).filter (fun x => decide (x ≠ [])) = wordsN t := rfl
  rw [hw, lvOf_strs] at hc
  unfold F_words_of
  rw [fnF_of (by rfl), hg]
  unfold f_words_of
  simp only [getV_s, getV_z, bindR_ok, bindR_exc, bindE_ok, bindE_exc, bindO_next, bindO_ret, bindO_exc, bindO_raise, bindO_brk, bindO_cont, setV_int, setV_str, setV_bool, setV_none, setV_list2, List.set_cons_succ, List.set_cons_zero, truthD_bool, Option.map_some, if_true, if_false, Bool.false_eq_true, retV_z, retV_s, addF_int, subF_int, ltF_int, leF_int, gtF_int, geF_int, eqF_int, neF_int, eqF_str, neF_str, andF_true, andF_false, orF_true, orF_false, isiF_list, isiF_str, isiF_int, isiF_bool, modF_lit, divF_lit, negF_int, notF_bool, asIntR_int, intF_bool, maxF_two, isF_int_none, isF_none_none, isF_list_none, itemF_tup0, itemF_tup1, methF_str, Nat.reduceLT, decide_true, decide_false, beq_self_eq_true, Bool.not_true, Bool.not_false, itemLv_int, itemLv_str, itemLv_list, itemLv_bool, itemLv_none, lvOf_strs, lvOf_ints, ne_eq, not_false_eq_true, not_true_eq_false, s_words_of_1, hrep, hsp, itF_map _ _ _ hsl, hc]
  rfl
theorem paragraphs_ok (t : List Nat) (h : t.length ≤ 200000) : F_paragraphs_of [.str t] = some (.ok (pyP (parasN t), 2)) := by
  have hg : argG 4 [.str t] = [some (.str t, 2), none, none, none, none] := rfl
  have hsp : splitF [.str t, .str [10]] = some (.ok (.list ((splitN 10 t).map .str), 2)) := by
    unfold splitF; simp only; rw [if_pos (by omega)]
  have hrs := rows_sum t
  have hsl' : (splitN 10 t).length ≤ lim := by unfold lim; omega
  have hidx : ∀ Γ, a_paragraphs_of_1 Γ = some (.ok (.int (-1), 2)) := fun _ => rfl
  let stp : (List Para × Bool) × Option (D × Nat) → List Nat → (List Para × Bool) × Option (D × Nat) := fun p r => (pstep p.1 (wordsN r), if wordsN r = [] ∨ p.1.2 = true then some (.list ((wordsN r).map .str), 2) else none)
  have hfst : ∀ (l : List (List Nat)) (p : (List Para × Bool) × Option (D × Nat)), (l.foldl stp p).1 = (l.map wordsN).foldl pstep p.1 := by
    intro l
    induction l with
    | nil => intro p; rfl
    | cons r l ih => intro p; rw [List.foldl_cons, ih, List.map_cons, List.foldl_cons]
  obtain ⟨v, e⟩ := loopF_fold (fB := b_paragraphs_of_1) (ix := 3) (α := List Nat) (σ := (List Para × Bool) × Option (D × Nat)) .str (fun p v => [some (.str t, 0), some (pyP p.1.1, 2), some (.bool p.1.2, 2), v, p.2]) stp (fun _ _ _ => rfl) (splitN 10 t) (([], false), none) none (by
    intro l₁ r l₂ el
    have hpi : PI 400002 ((l₁.foldl stp (([], false), none)).1) := by
      rw [hfst]
      show PI 400002 ((l₁.map wordsN).foldl pstep ([], false))
      have := PI.fold l₁ 0 ([], false) ⟨(fun h => by cases h), by simp, by simp⟩
      have h1 := sum_prefix l₁ l₂ r
      rw [← el] at h1
      have h2 : l₁.length ≤ (splitN 10 t).length := by rw [el, List.length_append]; omega
      obtain ⟨a, b, c⟩ := this
      exact ⟨a, by omega, fun q hq => by have := c q hq; omega⟩
    have hrlen : r.length ≤ 200000 := by
      have : r.length ≤ ((splitN 10 t).map List.length).sum := by
        rw [el, List.map_append, List.sum_append_nat, List.map_cons, List.sum_cons]; omega
      have h9 : (splitN 10 t).length = l₁.length + (l₂.length + 1) := by rw [el, List.length_append, List.length_cons]
      omega
    generalize l₁.foldl stp (([], false), none) = p at hpi ⊢
    obtain ⟨⟨P, g⟩, y4⟩ := p
    obtain ⟨p1, p2, p3⟩ := hpi
    dsimp only at p1 p2 p3
    have hw := words_of_ok r hrlen
    have hwl := wordsN_len r
    refine ⟨some (.str r, 2), ?_⟩
    by_cases h0 : wordsN r = []
    · have hs : stp ((P, g), y4) r = ((P, false), some (.list (([] : List (List Nat)).map .str), 2)) := by
        show (pstep (P, g) (wordsN r), _) = _
        rw [h0]; simp [pstep]
      rw [hs]
      rw [h0] at hw
      simp only [getV_s, getV_z, bindR_ok, bindR_exc, bindE_ok, bindE_exc, bindO_next, bindO_ret, bindO_exc, bindO_raise, bindO_brk, bindO_cont, setV_int, setV_str, setV_bool, setV_none, setV_list2, List.set_cons_succ, List.set_cons_zero, truthD_bool, Option.map_some, if_true, if_false, Bool.false_eq_true, retV_z, retV_s, addF_int, subF_int, ltF_int, leF_int, gtF_int, geF_int, eqF_int, neF_int, eqF_str, neF_str, andF_true, andF_false, orF_true, orF_false, isiF_list, isiF_str, isiF_int, isiF_bool, modF_lit, divF_lit, negF_int, notF_bool, asIntR_int, intF_bool, maxF_two, isF_int_none, isF_none_none, isF_list_none, itemF_tup0, itemF_tup1, methF_str, Nat.reduceLT, decide_true, decide_false, beq_self_eq_true, Bool.not_true, Bool.not_false, itemLv_int, itemLv_str, itemLv_list, itemLv_bool, itemLv_none, lvOf_strs, lvOf_ints, ne_eq, not_false_eq_true, not_true_eq_false, b_paragraphs_of_1, hw, listF_nil, eqF_strs_nil]
    · cases g
      · have hs : stp ((P, false), y4) r = ((P ++ [wordsN r], true), none) := by
          show (pstep (P, false) (wordsN r), if wordsN r = [] ∨ false = true then _ else _) = _
          rw [if_neg (by simp [h0])]; simp [pstep, h0]
        rw [hs]
        have hap := appM_para (i := 1) (j := 4) (Γ := [some (.str t, 0), some (pyP P, 2), some (.bool false, 2), some (.str r, 2), some (.list ((wordsN r).map .str), 2)]) (P := P) (ws := wordsN r) rfl rfl (by decide) (by unfold lim; omega)
        simp only [getV_s, getV_z, bindR_ok, bindR_exc, bindE_ok, bindE_exc, bindO_next, bindO_ret, bindO_exc, bindO_raise, bindO_brk, bindO_cont, setV_int, setV_str, setV_bool, setV_none, setV_list2, List.set_cons_succ, List.set_cons_zero, truthD_bool, Option.map_some, if_true, if_false, Bool.false_eq_true, retV_z, retV_s, addF_int, subF_int, ltF_int, leF_int, gtF_int, geF_int, eqF_int, neF_int, eqF_str, neF_str, andF_true, andF_false, orF_true, orF_false, isiF_list, isiF_str, isiF_int, isiF_bool, modF_lit, divF_lit, negF_int, notF_bool, asIntR_int, intF_bool, maxF_two, isF_int_none, isF_none_none, isF_list_none, itemF_tup0, itemF_tup1, methF_str, Nat.reduceLT, decide_true, decide_false, beq_self_eq_true, Bool.not_true, Bool.not_false, itemLv_int, itemLv_str, itemLv_list, itemLv_bool, itemLv_none, lvOf_strs, lvOf_ints, ne_eq, not_false_eq_true, not_true_eq_false, b_paragraphs_of_1, hw, listF_nil, eqF_strs_nil, h0, hap]
      · have hs : stp ((P, true), y4) r = ((appP P (wordsN r), true), some (.list ((wordsN r).map .str), 2)) := by
          show (pstep (P, true) (wordsN r), if wordsN r = [] ∨ true = true then _ else _) = _
          rw [if_pos (.inr rfl)]; simp [pstep, h0]
        rw [hs]
        have hq : (P.getLast?.getD []).length ≤ 1000000 := by
          cases hh : P.getLast? with
          | none => simp
          | some q => have := p3 q (List.mem_of_getLast? hh); simp; omega
        have hap := ext2F_para (i := 1) (g := a_paragraphs_of_1) (f := fun Γ => getV 4 Γ) (Γ := [some (.str t, 0), some (pyP P, 2), some (.bool true, 2), some (.str r, 2), some (.list ((wordsN r).map .str), 2)]) (P := P) (zs := wordsN r) rfl (hidx _) rfl (p1 rfl) (by unfold lim; omega) hq (by omega)
        simp only [getV_s, getV_z, bindR_ok, bindR_exc, bindE_ok, bindE_exc, bindO_next, bindO_ret, bindO_exc, bindO_raise, bindO_brk, bindO_cont, setV_int, setV_str, setV_bool, setV_none, setV_list2, List.set_cons_succ, List.set_cons_zero, truthD_bool, Option.map_some, if_true, if_false, Bool.false_eq_true, retV_z, retV_s, addF_int, subF_int, ltF_int, leF_int, gtF_int, geF_int, eqF_int, neF_int, eqF_str, neF_str, andF_true, andF_false, orF_true, orF_false, isiF_list, isiF_str, isiF_int, isiF_bool, modF_lit, divF_lit, negF_int, notF_bool, asIntR_int, intF_bool, maxF_two, isF_int_none, isF_none_none, isF_list_none, itemF_tup0, itemF_tup1, methF_str, Nat.reduceLT, decide_true, decide_false, beq_self_eq_true, Bool.not_true, Bool.not_false, itemLv_int, itemLv_str, itemLv_list, itemLv_bool, itemLv_none, lvOf_strs, lvOf_ints, ne_eq, not_false_eq_true, not_true_eq_false, b_paragraphs_of_1, hw, listF_nil, eqF_strs_nil, h0, hap])
  have e3 : s_paragraphs_of_3 [some (.str t, 2), some (.list [], 2), some (.bool false, 2), none, none] = some (.next [some (.str t, 0), some (pyP (parasN t), 2), some (.bool (((splitN 10 t).foldl stp (([], false), none)).1.2), 2), v, ((splitN 10 t).foldl stp (([], false), none)).2]) := by
    unfold s_paragraphs_of_3
    rw [forF_of (by simp only [getV_s, getV_z, bindR_ok, bindR_exc, bindE_ok, bindE_exc, bindO_next, bindO_ret, bindO_exc, bindO_raise, bindO_brk, bindO_cont, setV_int, setV_str, setV_bool, setV_none, setV_list2, List.set_cons_succ, List.set_cons_zero, truthD_bool, Option.map_some, if_true, if_false, Bool.false_eq_true, retV_z, retV_s, addF_int, subF_int, ltF_int, leF_int, gtF_int, geF_int, eqF_int, neF_int, eqF_str, neF_str, andF_true, andF_false, orF_true, orF_false, isiF_list, isiF_str, isiF_int, isiF_bool, modF_lit, divF_lit, negF_int, notF_bool, asIntR_int, intF_bool, maxF_two, isF_int_none, isF_none_none, isF_list_none, itemF_tup0, itemF_tup1, methF_str, Nat.reduceLT, decide_true, decide_false, beq_self_eq_true, Bool.not_true, Bool.not_false, itemLv_int, itemLv_str, itemLv_list, itemLv_bool, itemLv_none, lvOf_strs, lvOf_ints, ne_eq, not_false_eq_true, not_true_eq_false, hsp, itF_map _ _ _ hsl']; rfl)]
    have hp : ((splitN 10 t).foldl stp (([], false), none)).1.1 = parasN t := by rw [hfst]; rfl
    rw [← hp]
    exact e
  unfold F_paragraphs_of
  rw [fnF_of (by rfl), hg]
  unfold f_paragraphs_of
  simp only [getV_s, getV_z, bindR_ok, bindR_exc, bindE_ok, bindE_exc, bindO_next, bindO_ret, bindO_exc, bindO_raise, bindO_brk, bindO_cont, setV_int, setV_str, setV_bool, setV_none, setV_list2, List.set_cons_succ, List.set_cons_zero, truthD_bool, Option.map_some, if_true, if_false, Bool.false_eq_true, retV_z, retV_s, addF_int, subF_int, ltF_int, leF_int, gtF_int, geF_int, eqF_int, neF_int, eqF_str, neF_str, andF_true, andF_false, orF_true, orF_false, isiF_list, isiF_str, isiF_int, isiF_bool, modF_lit, divF_lit, negF_int, notF_bool, asIntR_int, intF_bool, maxF_two, isF_int_none, isF_none_none, isF_list_none, itemF_tup0, itemF_tup1, methF_str, Nat.reduceLT, decide_true, decide_false, beq_self_eq_true, Bool.not_true, Bool.not_false, itemLv_int, itemLv_str, itemLv_list, itemLv_bool, itemLv_none, lvOf_strs, lvOf_ints, ne_eq, not_false_eq_true, not_true_eq_false, s_paragraphs_of_1, listF_nil, s_paragraphs_of_2, e3, s_paragraphs_of_4]
  rfl
theorem parts_ok (t : List Nat) (h : t.length ≤ 200000) : F__law_parts [.str t] = some (.ok (pyP (parasN t), 2)) := by
  have hg : argG 4 [.str t] = [some (.str t, 2), none, none, none, none] := rfl
  have hadd := addF_str t [10] (by rw [List.length_append]; simp; unfold lim; omega)
  have hlt : (t ++ [10]).length ≤ lim := by rw [List.length_append]; simp; unfold lim; omega
  let wd : Bool → List Nat := fun b => if b then [119, 111, 114, 100] else []
  let rw' : Bool → List Nat := fun b => if b then [114, 111, 119] else []
  let fr : CS → Option (D × Nat) → G := fun σ v => [some (.str t, 2), some (pyP σ.parts, 2), some (.str σ.held, 2), some (.list [.str (wd σ.word), .str (rw' σ.row)], 2), v]
  have i1 : ∀ a b : List Nat, itemF [.list [.str a, .str b], .int 1] = some (.ok (.str b, 0)) := fun _ _ => rfl
  have i0 : ∀ a b : List Nat, itemF [.list [.str a, .str b], .int 0] = some (.ok (.str a, 0)) := fun _ _ => rfl
  have set1 : ∀ (A B C E : Option (D × Nat)) (a b c : List Nat) (f g : G → Option (R (D × Nat))), f [A, B, C, some (.list [.str a, .str b], 2), E] = some (.ok (.str c, 2)) → g [A, B, C, some (.list [.str a, .str b], 2), E] = some (.ok (.int 1, 2)) → setF [] 3 f g [A, B, C, some (.list [.str a, .str b], 2), E] = some (.next [A, B, C, some (.list [.str a, .str c], 2), E]) := by
    intro A B C E a b c f g hf hg
    rw [setF_flat (xs := [.str a, .str b]) (lv := 2) (k := 1) (d := .str c) (lv' := 2) (lv'' := 2) rfl (by decide) (show 2 ≤ lim by decide) hf rfl hg (show 1 < 2 by decide)]; rfl
  have set0 : ∀ (A B C E : Option (D × Nat)) (a b c : List Nat) (f g : G → Option (R (D × Nat))), f [A, B, C, some (.list [.str a, .str b], 2), E] = some (.ok (.str c, 2)) → g [A, B, C, some (.list [.str a, .str b], 2), E] = some (.ok (.int 0, 2)) → setF [] 3 f g [A, B, C, some (.list [.str a, .str b], 2), E] = some (.next [A, B, C, some (.list [.str c, .str b], 2), E]) := by
    intro A B C E a b c f g hf hg
    rw [setF_flat (xs := [.str a, .str b]) (lv := 2) (k := 0) (d := .str c) (lv' := 2) (lv'' := 2) rfl (by decide) (show 2 ≤ lim by decide) hf rfl hg (show 0 < 2 by decide)]; rfl
  have set1a := fun (A B C E : Option (D × Nat)) (a b : List Nat) => set1 A B C E a b [114, 111, 119] a__law_parts_2 a__law_parts_3 rfl rfl
  have set0a := fun (A B C E : Option (D × Nat)) (a b : List Nat) => set0 A B C E a b [119, 111, 114, 100] a__law_parts_4 a__law_parts_5 rfl rfl
  have set1b := fun (A B C E : Option (D × Nat)) (a b : List Nat) => set1 A B C E a b [] a__law_parts_7 a__law_parts_8 rfl rfl
  have set0b := fun (A B C E : Option (D × Nat)) (a b : List Nat) => set0 A B C E a b [] a__law_parts_9 a__law_parts_10 rfl rfl
  have hidx : ∀ Γ, a__law_parts_6 Γ = some (.ok (.int (-1), 2)) := fun _ => rfl
  have hnew : ∀ Γ, a__law_parts_1 Γ = some (.ok (.list [], 2)) := fun _ => rfl
  have hstep : ∀ (σ : CS) (k : Nat) (ch : Nat), CI k σ → k ≤ 300000 → b__law_parts_1 (fr σ (some (.str [ch], 2))) = some (.next (fr (cstep σ ch) (some (.str [ch], 2)))) := by
    intro σ k ch hci hk
    obtain ⟨P, hd, w, r⟩ := σ
    obtain ⟨c1, c2, c3, c4, c5⟩ := hci
    dsimp only at c1 c2 c3 c4 c5
    have hPl : P.length ≤ lim := by unfold lim; omega
    have hadd2 := addF_str hd [ch] (by rw [List.length_append]; simp; unfold lim; omega)
    have n32 : (([ch] : List Nat) == [32]) = decide (ch = 32) := by rw [Bool.eq_iff_iff]; simp
    have n10 : (([ch] : List Nat) == [10]) = decide (ch = 10) := by rw [Bool.eq_iff_iff]; simp
    have hrow : (rw' r == ([114, 111, 119] : List Nat)) = r := by cases r <;> rfl
    have hword : (wd w == ([119, 111, 114, 100] : List Nat)) = w := by cases w <;> rfl
    by_cases hc : ch ≠ 32 ∧ ch ≠ 10
    · obtain ⟨hc1, hc2⟩ := hc
      have e32 : decide (ch = 32) = false := decide_eq_false hc1
      have e10 : decide (ch = 10) = false := decide_eq_false hc2
      cases h0 : (hd == ([] : List Nat))
      · have h0' : hd ≠ [] := by simpa using h0
        have hs : cstep ⟨P, hd, w, r⟩ ch = ⟨P, hd ++ [ch], true, true⟩ := by simp [cstep, hc1, hc2, h0']
        rw [hs]
        simp only [getV_s, getV_z, bindR_ok, bindR_exc, bindE_ok, bindE_exc, bindO_next, bindO_ret, bindO_exc, bindO_raise, bindO_brk, bindO_cont, setV_int, setV_str, setV_bool, setV_none, setV_list2, List.set_cons_succ, List.set_cons_zero, truthD_bool, Option.map_some, if_true, if_false, Bool.false_eq_true, retV_z, retV_s, addF_int, subF_int, ltF_int, leF_int, gtF_int, geF_int, eqF_int, neF_int, eqF_str, neF_str, andF_true, andF_false, orF_true, orF_false, isiF_list, isiF_str, isiF_int, isiF_bool, modF_lit, divF_lit, negF_int, notF_bool, asIntR_int, intF_bool, maxF_two, isF_int_none, isF_none_none, isF_list_none, itemF_tup0, itemF_tup1, methF_str, Nat.reduceLT, decide_true, decide_false, beq_self_eq_true, Bool.not_true, Bool.not_false, itemLv_int, itemLv_str, itemLv_list, itemLv_bool, itemLv_none, lvOf_strs, lvOf_ints, ne_eq, not_false_eq_true, not_true_eq_false, b__law_parts_1, fr, n32, n10, e32, e10, h0, hadd2, set1a, set0a]
        rfl
      · have h0' : hd = [] := by simpa using h0
        subst h0'
        cases r
        · have hs : cstep ⟨P, [], w, false⟩ ch = ⟨P ++ [[]], [ch], true, true⟩ := by simp [cstep, hc1, hc2]
          rw [hs]
          have hap := appF_own (occ := []) (i := 1) (f := a__law_parts_1) (Γ := [some (.str t, 2), some (pyP P, 2), some (.str [], 2), some (.list [.str (wd w), .str (rw' false)], 2), some (.str [ch], 2)]) (xs := P.map paraD) rfl (by decide) (by rw [List.length_map]; exact hPl) (hnew _)
          have hm : P.map paraD ++ [.list []] = (P ++ [[]]).map paraD := by rw [List.map_append]; rfl
          rw [hm] at hap
          simp only [getV_s, getV_z, bindR_ok, bindR_exc, bindE_ok, bindE_exc, bindO_next, bindO_ret, bindO_exc, bindO_raise, bindO_brk, bindO_cont, setV_int, setV_str, setV_bool, setV_none, setV_list2, List.set_cons_succ, List.set_cons_zero, truthD_bool, Option.map_some, if_true, if_false, Bool.false_eq_true, retV_z, retV_s, addF_int, subF_int, ltF_int, leF_int, gtF_int, geF_int, eqF_int, neF_int, eqF_str, neF_str, andF_true, andF_false, orF_true, orF_false, isiF_list, isiF_str, isiF_int, isiF_bool, modF_lit, divF_lit, negF_int, notF_bool, asIntR_int, intF_bool, maxF_two, isF_int_none, isF_none_none, isF_list_none, itemF_tup0, itemF_tup1, methF_str, Nat.reduceLT, decide_true, decide_false, beq_self_eq_true, Bool.not_true, Bool.not_false, itemLv_int, itemLv_str, itemLv_list, itemLv_bool, itemLv_none, lvOf_strs, lvOf_ints, ne_eq, not_false_eq_true, not_true_eq_false, b__law_parts_1, fr, n32, n10, e32, e10, i1, hrow, hap, hadd2, set1a, set0a]
          rfl
        · have hs : cstep ⟨P, [], w, true⟩ ch = ⟨P, [ch], true, true⟩ := by simp [cstep, hc1, hc2]
          rw [hs]
          simp only [getV_s, getV_z, bindR_ok, bindR_exc, bindE_ok, bindE_exc, bindO_next, bindO_ret, bindO_exc, bindO_raise, bindO_brk, bindO_cont, setV_int, setV_str, setV_bool, setV_none, setV_list2, List.set_cons_succ, List.set_cons_zero, truthD_bool, Option.map_some, if_true, if_false, Bool.false_eq_true, retV_z, retV_s, addF_int, subF_int, ltF_int, leF_int, gtF_int, geF_int, eqF_int, neF_int, eqF_str, neF_str, andF_true, andF_false, orF_true, orF_false, isiF_list, isiF_str, isiF_int, isiF_bool, modF_lit, divF_lit, negF_int, notF_bool, asIntR_int, intF_bool, maxF_two, isF_int_none, isF_none_none, isF_list_none, itemF_tup0, itemF_tup1, methF_str, Nat.reduceLT, decide_true, decide_false, beq_self_eq_true, Bool.not_true, Bool.not_false, itemLv_int, itemLv_str, itemLv_list, itemLv_bool, itemLv_none, lvOf_strs, lvOf_ints, ne_eq, not_false_eq_true, not_true_eq_false, b__law_parts_1, fr, n32, n10, e32, e10, i1, hrow, hadd2, set1a, set0a]
          rfl
    · have hsep : ch = 32 ∨ ch = 10 := by
        by_cases q : ch = 32
        · exact .inl q
        · exact .inr (Classical.byContradiction fun z => hc ⟨q, z⟩)
      have hq : (P.getLast?.getD []).length ≤ lim := by
        cases hh : P.getLast? with
        | none => simp
        | some q => have := c5 q (List.mem_of_getLast? hh); simp; unfold lim; omega
      rcases hsep with rfl | rfl
      · cases h0 : (hd == ([] : List Nat))
        · have h0' : hd ≠ [] := by simpa using h0
          have hs : cstep ⟨P, hd, w, r⟩ 32 = ⟨appP P [hd], [], w, r⟩ := by simp [cstep, h0']
          rw [hs]
          have hap := app2F_para (i := 1) (g := a__law_parts_6) (f := fun Γ => getV 2 Γ) (Γ := [some (.str t, 2), some (pyP P, 2), some (.str hd, 2), some (.list [.str (wd w), .str (rw' r)], 2), some (.str [32], 2)]) (P := P) (x := hd) rfl (hidx _) rfl (c2 h0') hPl hq
          simp only [getV_s, getV_z, bindR_ok, bindR_exc, bindE_ok, bindE_exc, bindO_next, bindO_ret, bindO_exc, bindO_raise, bindO_brk, bindO_cont, setV_int, setV_str, setV_bool, setV_none, setV_list2, List.set_cons_succ, List.set_cons_zero, truthD_bool, Option.map_some, if_true, if_false, Bool.false_eq_true, retV_z, retV_s, addF_int, subF_int, ltF_int, leF_int, gtF_int, geF_int, eqF_int, neF_int, eqF_str, neF_str, andF_true, andF_false, orF_true, orF_false, isiF_list, isiF_str, isiF_int, isiF_bool, modF_lit, divF_lit, negF_int, notF_bool, asIntR_int, intF_bool, maxF_two, isF_int_none, isF_none_none, isF_list_none, itemF_tup0, itemF_tup1, methF_str, Nat.reduceLT, decide_true, decide_false, beq_self_eq_true, Bool.not_true, Bool.not_false, itemLv_int, itemLv_str, itemLv_list, itemLv_bool, itemLv_none, lvOf_strs, lvOf_ints, ne_eq, not_false_eq_true, not_true_eq_false, b__law_parts_1, fr, n32, n10, h0, hap]
          rfl
        · have h0' : hd = [] := by simpa using h0
          subst h0'
          have hs : cstep ⟨P, [], w, r⟩ 32 = ⟨P, [], w, r⟩ := by simp [cstep]
          rw [hs]
          simp only [getV_s, getV_z, bindR_ok, bindR_exc, bindE_ok, bindE_exc, bindO_next, bindO_ret, bindO_exc, bindO_raise, bindO_brk, bindO_cont, setV_int, setV_str, setV_bool, setV_none, setV_list2, List.set_cons_succ, List.set_cons_zero, truthD_bool, Option.map_some, if_true, if_false, Bool.false_eq_true, retV_z, retV_s, addF_int, subF_int, ltF_int, leF_int, gtF_int, geF_int, eqF_int, neF_int, eqF_str, neF_str, andF_true, andF_false, orF_true, orF_false, isiF_list, isiF_str, isiF_int, isiF_bool, modF_lit, divF_lit, negF_int, notF_bool, asIntR_int, intF_bool, maxF_two, isF_int_none, isF_none_none, isF_list_none, itemF_tup0, itemF_tup1, methF_str, Nat.reduceLT, decide_true, decide_false, beq_self_eq_true, Bool.not_true, Bool.not_false, itemLv_int, itemLv_str, itemLv_list, itemLv_bool, itemLv_none, lvOf_strs, lvOf_ints, ne_eq, not_false_eq_true, not_true_eq_false, b__law_parts_1, fr, n32, n10]
          rfl
      · have hend : ∀ (Q : List Para), (if decide ((10 : Nat) = 10) then (if w then r else false) else r) = (if w then r else false) := fun _ => rfl
        cases h0 : (hd == ([] : List Nat))
        · have h0' : hd ≠ [] := by simpa using h0
          have hs : cstep ⟨P, hd, w, r⟩ 10 = ⟨appP P [hd], [], false, if w then r else false⟩ := by simp [cstep, h0']
          rw [hs]
          have hap := app2F_para (i := 1) (g := a__law_parts_6) (f := fun Γ => getV 2 Γ) (Γ := [some (.str t, 2), some (pyP P, 2), some (.str hd, 2), some (.list [.str (wd w), .str (rw' r)], 2), some (.str [10], 2)]) (P := P) (x := hd) rfl (hidx _) rfl (c2 h0') hPl hq
          cases w
          · simp only [getV_s, getV_z, bindR_ok, bindR_exc, bindE_ok, bindE_exc, bindO_next, bindO_ret, bindO_exc, bindO_raise, bindO_brk, bindO_cont, setV_int, setV_str, setV_bool, setV_none, setV_list2, List.set_cons_succ, List.set_cons_zero, truthD_bool, Option.map_some, if_true, if_false, Bool.false_eq_true, retV_z, retV_s, addF_int, subF_int, ltF_int, leF_int, gtF_int, geF_int, eqF_int, neF_int, eqF_str, neF_str, andF_true, andF_false, orF_true, orF_false, isiF_list, isiF_str, isiF_int, isiF_bool, modF_lit, divF_lit, negF_int, notF_bool, asIntR_int, intF_bool, maxF_two, isF_int_none, isF_none_none, isF_list_none, itemF_tup0, itemF_tup1, methF_str, Nat.reduceLT, decide_true, decide_false, beq_self_eq_true, Bool.not_true, Bool.not_false, itemLv_int, itemLv_str, itemLv_list, itemLv_bool, itemLv_none, lvOf_strs, lvOf_ints, ne_eq, not_false_eq_true, not_true_eq_false, b__law_parts_1, fr, n32, n10, h0, hap, i0, hword, set1b, set0b]
            rfl
          · simp only [getV_s, getV_z, bindR_ok, bindR_exc, bindE_ok, bindE_exc, bindO_next, bindO_ret, bindO_exc, bindO_raise, bindO_brk, bindO_cont, setV_int, setV_str, setV_bool, setV_none, setV_list2, List.set_cons_succ, List.set_cons_zero, truthD_bool, Option.map_some, if_true, if_false, Bool.false_eq_true, retV_z, retV_s, addF_int, subF_int, ltF_int, leF_int, gtF_int, geF_int, eqF_int, neF_int, eqF_str, neF_str, andF_true, andF_false, orF_true, orF_false, isiF_list, isiF_str, isiF_int, isiF_bool, modF_lit, divF_lit, negF_int, notF_bool, asIntR_int, intF_bool, maxF_two, isF_int_none, isF_none_none, isF_list_none, itemF_tup0, itemF_tup1, methF_str, Nat.reduceLT, decide_true, decide_false, beq_self_eq_true, Bool.not_true, Bool.not_false, itemLv_int, itemLv_str, itemLv_list, itemLv_bool, itemLv_none, lvOf_strs, lvOf_ints, ne_eq, not_false_eq_true, not_true_eq_false, b__law_parts_1, fr, n32, n10, h0, hap, i0, hword, set1b, set0b]
            rfl
        · have h0' : hd = [] := by simpa using h0
          subst h0'
          have hs : cstep ⟨P, [], w, r⟩ 10 = ⟨P, [], false, if w then r else false⟩ := by simp [cstep]
          rw [hs]
          cases w
          · simp only [getV_s, getV_z, bindR_ok, bindR_exc, bindE_ok, bindE_exc, bindO_next, bindO_ret, bindO_exc, bindO_raise, bindO_brk, bindO_cont, setV_int, setV_str, setV_bool, setV_none, setV_list2, List.set_cons_succ, List.set_cons_zero, truthD_bool, Option.map_some, if_true, if_false, Bool.false_eq_true, retV_z, retV_s, addF_int, subF_int, ltF_int, leF_int, gtF_int, geF_int, eqF_int, neF_int, eqF_str, neF_str, andF_true, andF_false, orF_true, orF_false, isiF_list, isiF_str, isiF_int, isiF_bool, modF_lit, divF_lit, negF_int, notF_bool, asIntR_int, intF_bool, maxF_two, isF_int_none, isF_none_none, isF_list_none, itemF_tup0, itemF_tup1, methF_str, Nat.reduceLT, decide_true, decide_false, beq_self_eq_true, Bool.not_true, Bool.not_false, itemLv_int, itemLv_str, itemLv_list, itemLv_bool, itemLv_none, lvOf_strs, lvOf_ints, ne_eq, not_false_eq_true, not_true_eq_false, b__law_parts_1, fr, n32, n10, i0, hword, set1b, set0b]
            rfl
          · simp only [getV_s, getV_z, bindR_ok, bindR_exc, bindE_ok, bindE_exc, bindO_next, bindO_ret, bindO_exc, bindO_raise, bindO_brk, bindO_cont, setV_int, setV_str, setV_bool, setV_none, setV_list2, List.set_cons_succ, List.set_cons_zero, truthD_bool, Option.map_some, if_true, if_false, Bool.false_eq_true, retV_z, retV_s, addF_int, subF_int, ltF_int, leF_int, gtF_int, geF_int, eqF_int, neF_int, eqF_str, neF_str, andF_true, andF_false, orF_true, orF_false, isiF_list, isiF_str, isiF_int, isiF_bool, modF_lit, divF_lit, negF_int, notF_bool, asIntR_int, intF_bool, maxF_two, isF_int_none, isF_none_none, isF_list_none, itemF_tup0, itemF_tup1, methF_str, Nat.reduceLT, decide_true, decide_false, beq_self_eq_true, Bool.not_true, Bool.not_false, itemLv_int, itemLv_str, itemLv_list, itemLv_bool, itemLv_none, lvOf_strs, lvOf_ints, ne_eq, not_false_eq_true, not_true_eq_false, b__law_parts_1, fr, n32, n10, i0, hword, set1b, set0b]
            rfl
  obtain ⟨v, e⟩ := loopF_fold (fB := b__law_parts_1) (ix := 4) (α := Nat) (σ := CS) (fun ch => .str [ch]) fr cstep (fun _ _ _ => rfl) (t ++ [10]) ⟨[], [], false, false⟩ none (by
    intro l₁ ch l₂ el
    have hk : l₁.length ≤ 300000 := by
      have := congrArg List.length el
      rw [List.length_append, List.length_append] at this; simp at this; omega
    have hci := CI.fold l₁ 0 ⟨[], [], false, false⟩ ⟨(fun h => by cases h), (fun h => absurd rfl h), by simp, by simp, by simp⟩
    rw [Nat.zero_add] at hci
    exact ⟨_, hstep _ l₁.length ch hci hk⟩)
  have e4 : ∃ x2 x3, s__law_parts_4 [some (.str t, 2), some (.list [], 2), some (.str [], 2), some (.list [.str [], .str []], 2), none] = some (.next [some (.str t, 2), some (pyP (parasN t), 2), x2, x3, v]) := by
    unfold s__law_parts_4
    rw [forF_of (by simp only [getV_s, getV_z, bindR_ok, bindR_exc, bindE_ok, bindE_exc, bindO_next, bindO_ret, bindO_exc, bindO_raise, bindO_brk, bindO_cont, setV_int, setV_str, setV_bool, setV_none, setV_list2, List.set_cons_succ, List.set_cons_zero, truthD_bool, Option.map_some, if_true, if_false, Bool.false_eq_true, retV_z, retV_s, addF_int, subF_int, ltF_int, leF_int, gtF_int, geF_int, eqF_int, neF_int, eqF_str, neF_str, andF_true, andF_false, orF_true, orF_false, isiF_list, isiF_str, isiF_int, isiF_bool, modF_lit, divF_lit, negF_int, notF_bool, asIntR_int, intF_bool, maxF_two, isF_int_none, isF_none_none, isF_list_none, itemF_tup0, itemF_tup1, methF_str, Nat.reduceLT, decide_true, decide_false, beq_self_eq_true, Bool.not_true, Bool.not_false, itemLv_int, itemLv_str, itemLv_list, itemLv_bool, itemLv_none, lvOf_strs, lvOf_ints, ne_eq, not_false_eq_true, not_true_eq_false, hadd, itS_str _ _ hlt]; rfl)]
    rw [← parts_eq t]
    exact ⟨_, _, e⟩
  obtain ⟨x2, x3, e4⟩ := e4
  have hl2 : listF [.str [], .str []] = some (.ok (.list [.str [], .str []], 2)) := rfl
  unfold F__law_parts
  rw [fnF_of (by rfl), hg]
  unfold f__law_parts
  simp only [getV_s, getV_z, bindR_ok, bindR_exc, bindE_ok, bindE_exc, bindO_next, bindO_ret, bindO_exc, bindO_raise, bindO_brk, bindO_cont, setV_int, setV_str, setV_bool, setV_none, setV_list2, List.set_cons_succ, List.set_cons_zero, truthD_bool, Option.map_some, if_true, if_false, Bool.false_eq_true, retV_z, retV_s, addF_int, subF_int, ltF_int, leF_int, gtF_int, geF_int, eqF_int, neF_int, eqF_str, neF_str, andF_true, andF_false, orF_true, orF_false, isiF_list, isiF_str, isiF_int, isiF_bool, modF_lit, divF_lit, negF_int, notF_bool, asIntR_int, intF_bool, maxF_two, isF_int_none, isF_none_none, isF_list_none, itemF_tup0, itemF_tup1, methF_str, Nat.reduceLT, decide_true, decide_false, beq_self_eq_true, Bool.not_true, Bool.not_false, itemLv_int, itemLv_str, itemLv_list, itemLv_bool, itemLv_none, lvOf_strs, lvOf_ints, ne_eq, not_false_eq_true, not_true_eq_false, s__law_parts_1, listF_nil, s__law_parts_2, s__law_parts_3, hl2, e4, s__law_parts_5]
  rfl
theorem piece_ok (cell : Int) (fl : Bool) (cs : Option (D × Nat)) (acc : List Nat) (s3 : Option (D × Nat)) (h : acc.length ≤ 100000) : ∃ (u : List Nat) (z3 : Option (D × Nat)), u.length ≤ 40 ∧ b__law_text_by_1 [cs, some (.bool fl, 2), some (.str acc, 2), some (.int cell, 2), s3] = some (.next [cs, some (.bool fl, 2), some (.str (acc ++ u), 2), some (.int cell, 2), z3]) := by
  obtain ⟨q, hq, eq⟩ := fmod_nat (cell.fdiv 3) 3 (by decide)
  have eq : (cell.fdiv 3).fmod 3 = (q : Int) := eq
  have hc : (1 : Int) + (q : Int) = ((1 + q : Nat) : Int) := by omega
  cases h0 : (cell.fmod 3 == 0)
  case true =>
    have m := mulF_str [32] (1 + q) (by simp; unfold lim; omega) (by omega)
    rw [repL_one] at m
    have a := addF_str acc (List.replicate (1 + q) 32) (by simp; unfold lim; omega)
    exact ⟨List.replicate (1 + q) 32, s3, by simp; omega, by simp -implicitDefEqProofs only [getV_s, getV_z, bindR_ok, bindR_exc, bindE_ok, bindE_exc, bindO_next, bindO_ret, bindO_exc, bindO_raise, bindO_brk, bindO_cont, setV_int, setV_str, setV_bool, setV_none, setV_list2, List.set_cons_succ, List.set_cons_zero, truthD_bool, Option.map_some, if_true, if_false, Bool.false_eq_true, retV_z, retV_s, addF_int, subF_int, ltF_int, leF_int, gtF_int, geF_int, eqF_int, neF_int, eqF_str, neF_str, andF_true, andF_false, orF_true, orF_false, isiF_list, isiF_str, isiF_int, isiF_bool, modF_lit, divF_lit, negF_int, notF_bool, asIntR_int, intF_bool, maxF_two, isF_int_none, isF_none_none, isF_list_none, itemF_tup0, itemF_tup1, methF_str, Nat.reduceLT, decide_true, decide_false, beq_self_eq_true, Bool.not_true, Bool.not_false, itemLv_int, itemLv_str, itemLv_list, itemLv_bool, itemLv_none, lvOf_strs, lvOf_ints, ne_eq, not_false_eq_true, not_true_eq_false, b__law_text_by_1, h0, eq, hc, m, a]⟩
  cases h1 : (cell.fmod 3 == 1)
  case true =>
    obtain ⟨r, hr3, er⟩ : ∃ r : Nat, r ≤ 3 ∧ (1 : Int) + (q : Int) * (if (!fl) = true then 1 else 0) = (r : Int) := by
      cases fl
      · exact ⟨1 + q, by omega, by simp⟩
      · exact ⟨1, by omega, by simp⟩
    have mu := mulF_int (q : Int) (if (!fl) = true then 1 else 0) (mulOk_left _ _ (by omega))
    have m := mulF_str [10] r (by simp; unfold lim; omega) (by omega)
    rw [repL_one] at m
    have a := addF_str acc (List.replicate r 10) (by simp; unfold lim; omega)
    exact ⟨List.replicate r 10, s3, by simp; omega, by simp -implicitDefEqProofs only [getV_s, getV_z, bindR_ok, bindR_exc, bindE_ok, bindE_exc, bindO_next, bindO_ret, bindO_exc, bindO_raise, bindO_brk, bindO_cont, setV_int, setV_str, setV_bool, setV_none, setV_list2, List.set_cons_succ, List.set_cons_zero, truthD_bool, Option.map_some, if_true, if_false, Bool.false_eq_true, retV_z, retV_s, addF_int, subF_int, ltF_int, leF_int, gtF_int, geF_int, eqF_int, neF_int, eqF_str, neF_str, andF_true, andF_false, orF_true, orF_false, isiF_list, isiF_str, isiF_int, isiF_bool, modF_lit, divF_lit, negF_int, notF_bool, asIntR_int, intF_bool, maxF_two, isF_int_none, isF_none_none, isF_list_none, itemF_tup0, itemF_tup1, methF_str, Nat.reduceLT, decide_true, decide_false, beq_self_eq_true, Bool.not_true, Bool.not_false, itemLv_int, itemLv_str, itemLv_list, itemLv_bool, itemLv_none, lvOf_strs, lvOf_ints, ne_eq, not_false_eq_true, not_true_eq_false, b__law_text_by_1, h0, h1, eq, mu, er, m, a]⟩
  obtain ⟨a5, ha5, ea5⟩ := fmod_nat (cell.fdiv 3) 5 (by decide)
  have ea5 : (cell.fdiv 3).fmod 5 = (a5 : Int) := ea5
  obtain ⟨b8, hb8, eb8⟩ := fmod_nat (cell.fdiv 45) 8 (by decide)
  have eb8 : (cell.fdiv 45).fmod 8 = (b8 : Int) := eb8
  obtain ⟨c36, hc36, ec36⟩ := fmod_nat (cell.fdiv 360) 36 (by decide)
  have ec36 : (cell.fdiv 360).fmod 36 = (c36 : Int) := ec36
  obtain ⟨d7, hd7, ed7⟩ := fmod_nat (cell.fdiv 11) 7 (by decide)
  have ed7 : (cell.fdiv 11).fmod 7 = (d7 : Int) := ed7
  have hf7 : (b8 : Int).fdiv 7 = ((b8 / 7 : Nat) : Int) := fdiv_nat b8 7
  have hmu := mulF_int ((b8 / 7 : Nat) : Int) (c36 : Int) (mulOk_right _ _ (by omega))
  have hle : (b8 / 7) * c36 ≤ 35 := by
    have h1 : b8 / 7 ≤ 1 := by omega
    have := Nat.mul_le_mul h1 (show c36 ≤ 35 by omega)
    omega
  generalize hm : (b8 / 7) * c36 = m at hle
  have hcast : ((b8 / 7 : Nat) : Int) * (c36 : Int) = (m : Int) := by rw [← hm]; rfl
  have hsz : (1 : Int) + (a5 : Int) + (m : Int) = ((1 + a5 + m : Nat) : Int) := by omega
  have hr := rngF_nat (1 + a5 + m) (by unfold lim; omega)
  have hcmp := compF_src (fE := e__law_text_by_1) (cap := [3]) (Γ := [cs, some (.bool fl, 2), some (.str acc, 2), some (.int cell, 2), some (.int ((1 + a5 + m : Nat) : Int), 2)]) (fun (i : Nat) => D.int (i : Int)) (fun i => .str [signBy (cell.fdiv 15 + (i : Int) * (d7 : Int))]) (List.range (1 + a5 + m)) (by
    intro i _
    have hmm := mulF_int (i : Int) (d7 : Int) (mulOk_right _ _ (by omega))
    exact ⟨2, by simp -implicitDefEqProofs only [getV_s, getV_z, bindR_ok, bindR_exc, bindE_ok, bindE_exc, bindO_next, bindO_ret, bindO_exc, bindO_raise, bindO_brk, bindO_cont, setV_int, setV_str, setV_bool, setV_none, setV_list2, List.set_cons_succ, List.set_cons_zero, truthD_bool, Option.map_some, if_true, if_false, Bool.false_eq_true, retV_z, retV_s, addF_int, subF_int, ltF_int, leF_int, gtF_int, geF_int, eqF_int, neF_int, eqF_str, neF_str, andF_true, andF_false, orF_true, orF_false, isiF_list, isiF_str, isiF_int, isiF_bool, modF_lit, divF_lit, negF_int, notF_bool, asIntR_int, intF_bool, maxF_two, isF_int_none, isF_none_none, isF_list_none, itemF_tup0, itemF_tup1, methF_str, Nat.reduceLT, decide_true, decide_false, beq_self_eq_true, Bool.not_true, Bool.not_false, itemLv_int, itemLv_str, itemLv_list, itemLv_bool, itemLv_none, lvOf_strs, lvOf_ints, ne_eq, not_false_eq_true, not_true_eq_false, e__law_text_by_1, compG, List.map_cons, List.map_nil, List.getElem?_cons_zero, List.getElem?_cons_succ, Option.join_some, ed7, hmm, sign_by_ok]⟩)
  generalize hL : (List.range (1 + a5 + m)).map (fun (i : Nat) => signBy (cell.fdiv 15 + (i : Int) * (d7 : Int))) = L
  have hLl : L.length = 1 + a5 + m := by rw [← hL]; simp
  have hmap : (List.range (1 + a5 + m)).map (fun (i : Nat) => D.str [signBy (cell.fdiv 15 + (i : Int) * (d7 : Int))]) = (L.map fun ch => [ch]).map .str := by rw [← hL, List.map_map, List.map_map]; rfl
  rw [hmap, lvOf_strs] at hcmp
  have hj := joinF_strs [] (L.map fun ch => [ch]) (by rw [total_ones]; unfold lim; omega)
  rw [joinN_ones] at hj
  have a := addF_str acc L (by simp; unfold lim; omega)
  exact ⟨L, some (.int ((1 + a5 + m : Nat) : Int), 2), by omega, by simp -implicitDefEqProofs only [getV_s, getV_z, bindR_ok, bindR_exc, bindE_ok, bindE_exc, bindO_next, bindO_ret, bindO_exc, bindO_raise, bindO_brk, bindO_cont, setV_int, setV_str, setV_bool, setV_none, setV_list2, List.set_cons_succ, List.set_cons_zero, truthD_bool, Option.map_some, if_true, if_false, Bool.false_eq_true, retV_z, retV_s, addF_int, subF_int, ltF_int, leF_int, gtF_int, geF_int, eqF_int, neF_int, eqF_str, neF_str, andF_true, andF_false, orF_true, orF_false, isiF_list, isiF_str, isiF_int, isiF_bool, modF_lit, divF_lit, negF_int, notF_bool, asIntR_int, intF_bool, maxF_two, isF_int_none, isF_none_none, isF_list_none, itemF_tup0, itemF_tup1, methF_str, Nat.reduceLT, decide_true, decide_false, beq_self_eq_true, Bool.not_true, Bool.not_false, itemLv_int, itemLv_str, itemLv_list, itemLv_bool, itemLv_none, lvOf_strs, lvOf_ints, ne_eq, not_false_eq_true, not_true_eq_false, b__law_text_by_1, h0, h1, ea5, eb8, hf7, ec36, hmu, hcast, hsz, hr, hcmp, hj, a]⟩
theorem text_by_ok (cells : List Int) (fl : Bool) (h : cells.length ≤ 63) : ∃ t : List Nat, t.length ≤ 40 * cells.length ∧ F__law_text_by [.list (cells.map .int), .bool fl] = some (.ok (.str t, 2)) := by
  have hg : argG 3 [.list (cells.map D.int), .bool fl] = [some (.list (cells.map .int), 0), some (.bool fl, 2), none, none, none] := rfl
  have hl : cells.length ≤ lim := by unfold lim; omega
  obtain ⟨Γ', h1, t, z2, z3, h2, rfl⟩ := loopF_inv (α := Unit) (fB := b__law_text_by_1) (ix := 3) (fun k Γ => ∃ (t : List Nat) (z2 z3 : Option (D × Nat)), t.length ≤ 40 * k ∧ Γ = [some (.list (cells.map .int), 0), some (.bool fl, 2), some (.str t, 2), z2, z3]) (cells.map .int) 0 [some (.list (cells.map .int), 0), some (.bool fl, 2), some (.str [], 2), none, none] ⟨[], none, none, by simp, rfl⟩ (by
    rintro i Γ x hx ⟨t, z2, z3, ht, rfl⟩
    have hi := (List.getElem?_eq_some_iff.mp hx).1
    rw [List.length_map] at hi
    obtain ⟨c, hc⟩ : ∃ c, x = .int c := by
      rw [List.getElem?_map] at hx
      cases hq : cells[i]? with
      | none => rw [hq] at hx; cases hx
      | some c => rw [hq] at hx; exact ⟨c, (Option.some.inj hx).symm⟩
    subst hc
    obtain ⟨u, w3, hu, e⟩ := piece_ok c fl (some (.list (cells.map .int), 0)) t z3 (by omega)
    exact ⟨_, e, t ++ u, _, w3, by rw [List.length_append]; omega, rfl⟩)
  rw [List.length_map] at h2
  refine ⟨t, by omega, ?_⟩
  have e2 : s__law_text_by_2 [some (.list (cells.map .int), 0), some (.bool fl, 2), some (.str [], 2), none, none] = some (.next [some (.list (cells.map .int), 0), some (.bool fl, 2), some (.str t, 2), z2, z3]) := by
    unfold s__law_text_by_2
    rw [forF_of (by simp only [getV_s, getV_z, bindR_ok, bindR_exc, bindE_ok, bindE_exc, bindO_next, bindO_ret, bindO_exc, bindO_raise, bindO_brk, bindO_cont, setV_int, setV_str, setV_bool, setV_none, setV_list2, List.set_cons_succ, List.set_cons_zero, truthD_bool, Option.map_some, if_true, if_false, Bool.false_eq_true, retV_z, retV_s, addF_int, subF_int, ltF_int, leF_int, gtF_int, geF_int, eqF_int, neF_int, eqF_str, neF_str, andF_true, andF_false, orF_true, orF_false, isiF_list, isiF_str, isiF_int, isiF_bool, modF_lit, divF_lit, negF_int, notF_bool, asIntR_int, intF_bool, maxF_two, isF_int_none, isF_none_none, isF_list_none, itemF_tup0, itemF_tup1, methF_str, Nat.reduceLT, decide_true, decide_false, beq_self_eq_true, Bool.not_true, Bool.not_false, itemLv_int, itemLv_str, itemLv_list, itemLv_bool, itemLv_none, lvOf_strs, lvOf_ints, ne_eq, not_false_eq_true, not_true_eq_false, itF_map _ _ _ hl]; rfl)]
    exact h1
  unfold F__law_text_by
  rw [fnF_of (by rfl), hg]
  unfold f__law_text_by
  simp only [getV_s, getV_z, bindR_ok, bindR_exc, bindE_ok, bindE_exc, bindO_next, bindO_ret, bindO_exc, bindO_raise, bindO_brk, bindO_cont, setV_int, setV_str, setV_bool, setV_none, setV_list2, List.set_cons_succ, List.set_cons_zero, truthD_bool, Option.map_some, if_true, if_false, Bool.false_eq_true, retV_z, retV_s, addF_int, subF_int, ltF_int, leF_int, gtF_int, geF_int, eqF_int, neF_int, eqF_str, neF_str, andF_true, andF_false, orF_true, orF_false, isiF_list, isiF_str, isiF_int, isiF_bool, modF_lit, divF_lit, negF_int, notF_bool, asIntR_int, intF_bool, maxF_two, isF_int_none, isF_none_none, isF_list_none, itemF_tup0, itemF_tup1, methF_str, Nat.reduceLT, decide_true, decide_false, beq_self_eq_true, Bool.not_true, Bool.not_false, itemLv_int, itemLv_str, itemLv_list, itemLv_bool, itemLv_none, lvOf_strs, lvOf_ints, ne_eq, not_false_eq_true, not_true_eq_false, s__law_text_by_1, e2, s__law_text_by_3]
  rfl
theorem longest_ok (P : List Para) (hl : P.length ≤ lim) (hp : ∀ p ∈ P, p.length ≤ lim) (hw : ∀ w ∈ P.flatten, w.length ≤ big) : F__law_longest [.list (P.map paraD)] = some (.ok (.int (longest P.flatten : Nat), 2)) := by
  have hin : ∀ p ∈ P, ∀ (m : Nat) (v : Option (D × Nat)), ∃ w, forF [2] 3 i__law_longest_1 b__law_longest_1 [some (.list (P.map paraD), 0), some (.int (m : Nat), 2), some (paraD p, 0), v] = some (.next [some (.list (P.map paraD), 0), some (.int (p.foldl (fun m w => max m w.length) m : Nat), 2), some (paraD p, 0), w]) := by
    intro p hpP m v
    obtain ⟨w, e⟩ := loopF_fold (fB := b__law_longest_1) (ix := 3) (α := List Nat) (σ := Nat) .str (fun m v => [some (.list (P.map paraD), 0), some (.int (m : Nat), 2), some (paraD p, 0), v]) (fun m w => max m w.length) (fun _ _ _ => rfl) p m v (by
      intro l₁ a l₂ el
      have ha := hw a (List.mem_flatten.mpr ⟨p, hpP, by rw [el]; simp⟩)
      have hm : ∀ m : Nat, max (m : Int) (a.length : Int) = ((max m a.length : Nat) : Int) := fun m => by omega
      exact ⟨_, by simp only [getV_s, getV_z, bindR_ok, bindR_exc, bindE_ok, bindE_exc, bindO_next, bindO_ret, bindO_exc, bindO_raise, bindO_brk, bindO_cont, setV_int, setV_str, setV_bool, setV_none, setV_list2, List.set_cons_succ, List.set_cons_zero, truthD_bool, Option.map_some, if_true, if_false, Bool.false_eq_true, retV_z, retV_s, addF_int, subF_int, ltF_int, leF_int, gtF_int, geF_int, eqF_int, neF_int, eqF_str, neF_str, andF_true, andF_false, orF_true, orF_false, isiF_list, isiF_str, isiF_int, isiF_bool, modF_lit, divF_lit, negF_int, notF_bool, asIntR_int, intF_bool, maxF_two, isF_int_none, isF_none_none, isF_list_none, itemF_tup0, itemF_tup1, methF_str, Nat.reduceLT, decide_true, decide_false, beq_self_eq_true, Bool.not_true, Bool.not_false, itemLv_int, itemLv_str, itemLv_list, itemLv_bool, itemLv_none, lvOf_strs, lvOf_ints, ne_eq, not_false_eq_true, not_true_eq_false, b__law_longest_1, lenF_str _ ha, hm]; rfl⟩)
    refine ⟨w, ?_⟩
    rw [forF_of (by simp only [getV_s, getV_z, bindR_ok, bindR_exc, bindE_ok, bindE_exc, bindO_next, bindO_ret, bindO_exc, bindO_raise, bindO_brk, bindO_cont, setV_int, setV_str, setV_bool, setV_none, setV_list2, List.set_cons_succ, List.set_cons_zero, truthD_bool, Option.map_some, if_true, if_false, Bool.false_eq_true, retV_z, retV_s, addF_int, subF_int, ltF_int, leF_int, gtF_int, geF_int, eqF_int, neF_int, eqF_str, neF_str, andF_true, andF_false, orF_true, orF_false, isiF_list, isiF_str, isiF_int, isiF_bool, modF_lit, divF_lit, negF_int, notF_bool, asIntR_int, intF_bool, maxF_two, isF_int_none, isF_none_none, isF_list_none, itemF_tup0, itemF_tup1, methF_str, Nat.reduceLT, decide_true, decide_false, beq_self_eq_true, Bool.not_true, Bool.not_false, itemLv_int, itemLv_str, itemLv_list, itemLv_bool, itemLv_none, lvOf_strs, lvOf_ints, ne_eq, not_false_eq_true, not_true_eq_false, i__law_longest_1, paraD, itF_map _ _ _ (hp p hpP)]; rfl)]
    exact e
  obtain ⟨Γ', e, v, z, rfl⟩ := loopF_inv (α := Unit) (fB := b__law_longest_2) (ix := 2) (fun k Γ => ∃ (v z : Option (D × Nat)), Γ = [some (.list (P.map paraD), 0), some (.int (((P.take k).foldl (fun m p => p.foldl (fun m w => max m w.length) m) 0 : Nat) : Int), 2), v, z]) (P.map paraD) 0 [some (.list (P.map paraD), 0), some (.int 0, 2), none, none] ⟨none, none, rfl⟩ (by
    rintro i Γ x hx ⟨v, z, rfl⟩
    obtain ⟨p, hp0, rfl⟩ : ∃ p, P[i]? = some p ∧ x = paraD p := by
      rw [List.getElem?_map] at hx
      cases hq : P[i]? with
      | none => rw [hq] at hx; cases hx
      | some c => rw [hq] at hx; exact ⟨c, rfl, (Option.some.inj hx).symm⟩
    obtain ⟨w, e⟩ := hin p (List.mem_of_getElem? hp0) ((P.take i).foldl (fun m p => p.foldl (fun m w => max m w.length) m) 0) z
    refine ⟨_, ?_, some (paraD p, 0), w, rfl⟩
    rw [Nat.zero_add, List.take_add_one, hp0, Option.toList_some, List.foldl_append, List.foldl_cons, List.foldl_nil]
    unfold b__law_longest_2
    exact congrArg (fun o => bindO o fun Γ => some (.next Γ)) e)
  rw [Nat.zero_add, List.length_map, List.take_length, longest_flat] at e
  have e2 : s__law_longest_2 [some (.list (P.map paraD), 0), some (.int 0, 2), none, none] = some (.next [some (.list (P.map paraD), 0), some (.int (longest P.flatten : Nat), 2), v, z]) := by
    unfold s__law_longest_2
    rw [forF_of (by simp only [getV_s, getV_z, bindR_ok, bindR_exc, bindE_ok, bindE_exc, bindO_next, bindO_ret, bindO_exc, bindO_raise, bindO_brk, bindO_cont, setV_int, setV_str, setV_bool, setV_none, setV_list2, List.set_cons_succ, List.set_cons_zero, truthD_bool, Option.map_some, if_true, if_false, Bool.false_eq_true, retV_z, retV_s, addF_int, subF_int, ltF_int, leF_int, gtF_int, geF_int, eqF_int, neF_int, eqF_str, neF_str, andF_true, andF_false, orF_true, orF_false, isiF_list, isiF_str, isiF_int, isiF_bool, modF_lit, divF_lit, negF_int, notF_bool, asIntR_int, intF_bool, maxF_two, isF_int_none, isF_none_none, isF_list_none, itemF_tup0, itemF_tup1, methF_str, Nat.reduceLT, decide_true, decide_false, beq_self_eq_true, Bool.not_true, Bool.not_false, itemLv_int, itemLv_str, itemLv_list, itemLv_bool, itemLv_none, lvOf_strs, lvOf_ints, ne_eq, not_false_eq_true, not_true_eq_false, itF_map _ _ _ hl]; rfl)]
    exact e
  have hg : argG 3 [.list (P.map paraD)] = [some (.list (P.map paraD), 0), none, none, none] := rfl
  unfold F__law_longest
  rw [fnF_of (by rfl), hg]
  unfold f__law_longest
  simp only [getV_s, getV_z, bindR_ok, bindR_exc, bindE_ok, bindE_exc, bindO_next, bindO_ret, bindO_exc, bindO_raise, bindO_brk, bindO_cont, setV_int, setV_str, setV_bool, setV_none, setV_list2, List.set_cons_succ, List.set_cons_zero, truthD_bool, Option.map_some, if_true, if_false, Bool.false_eq_true, retV_z, retV_s, addF_int, subF_int, ltF_int, leF_int, gtF_int, geF_int, eqF_int, neF_int, eqF_str, neF_str, andF_true, andF_false, orF_true, orF_false, isiF_list, isiF_str, isiF_int, isiF_bool, modF_lit, divF_lit, negF_int, notF_bool, asIntR_int, intF_bool, maxF_two, isF_int_none, isF_none_none, isF_list_none, itemF_tup0, itemF_tup1, methF_str, Nat.reduceLT, decide_true, decide_false, beq_self_eq_true, Bool.not_true, Bool.not_false, itemLv_int, itemLv_str, itemLv_list, itemLv_bool, itemLv_none, lvOf_strs, lvOf_ints, ne_eq, not_false_eq_true, not_true_eq_false, s__law_longest_1, e2, s__law_longest_3]
  rfl
theorem repL_len (t : List Nat) (k : Nat) : (repL t (k : Int)).length = k * t.length := by simp [repL]
noncomputable def GW (w : Int) : Prop := (w.natAbs ≤ 2000000000 ∧ w ≤ 1000000) ∨ w = 1000000000000000000000000000000
theorem GW.le {w : Int} (h : GW w) : w.natAbs ≤ 1000000000000000000000000000000000000 := by unfold GW at h; omega
theorem text_head (ns : List Int) (h : ns.length ≤ 63) (tl : G) : ∃ t0 t : List Nat, t.length ≤ 50400 ∧ s_law_1 (some (.list (ns.map .int), 0) :: none :: tl) = some (.next (some (.list (ns.map .int), 0) :: some (.str t0, 2) :: tl)) ∧
    s_law_2 (some (.list (ns.map .int), 0) :: some (.str t0, 2) :: tl) = some (.next (some (.list (ns.map .int), 0) :: some (.str t, 2) :: tl)) := by
  obtain ⟨l0, c0⟩ := cell_at_ok ns 0 h
  generalize ns.getD 0 0 = a0 at c0
  replace c0 : F__law_cell_at [.list (ns.map .int), .int 0] = _ := c0
  have hnl : ns.length ≤ lim := by unfold lim; omega
  obtain ⟨t0, ht0, et⟩ := text_by_ok (sliceL ns (some 2) none) (((a0.fdiv 16).fmod 3) == 1) (Nat.le_trans (sliceL_len _ _ _) h)
  have hsl := sliceL_len ns (some 2) none
  have e1 : s_law_1 (some (.list (ns.map .int), 0) :: none :: tl) = some (.next (some (.list (ns.map .int), 0) :: some (.str t0, 2) :: tl)) := by simp only [getV_s, getV_z, bindR_ok, bindR_exc, bindE_ok, bindE_exc, bindO_next, bindO_ret, bindO_exc, bindO_raise, bindO_brk, bindO_cont, setV_int, setV_str, setV_bool, setV_none, setV_list2, List.set_cons_succ, List.set_cons_zero, truthD_bool, Option.map_some, if_true, if_false, Bool.false_eq_true, retV_z, retV_s, addF_int, subF_int, ltF_int, leF_int, gtF_int, geF_int, eqF_int, neF_int, eqF_str, neF_str, andF_true, andF_false, orF_true, orF_false, isiF_list, isiF_str, isiF_int, isiF_bool, modF_lit, divF_lit, negF_int, notF_bool, asIntR_int, intF_bool, maxF_two, isF_int_none, isF_none_none, isF_list_none, itemF_tup0, itemF_tup1, methF_str, Nat.reduceLT, decide_true, decide_false, beq_self_eq_true, Bool.not_true, Bool.not_false, itemLv_int, itemLv_str, itemLv_list, itemLv_bool, itemLv_none, lvOf_strs, lvOf_ints, ne_eq, not_false_eq_true, not_true_eq_false, s_law_1, sliceF_ints _ _ _ hnl, c0, et]
  cases hc : (a0.fmod 4 == 1)
  · exact ⟨t0, t0, by omega, e1, by simp only [getV_s, getV_z, bindR_ok, bindR_exc, bindE_ok, bindE_exc, bindO_next, bindO_ret, bindO_exc, bindO_raise, bindO_brk, bindO_cont, setV_int, setV_str, setV_bool, setV_none, setV_list2, List.set_cons_succ, List.set_cons_zero, truthD_bool, Option.map_some, if_true, if_false, Bool.false_eq_true, retV_z, retV_s, addF_int, subF_int, ltF_int, leF_int, gtF_int, geF_int, eqF_int, neF_int, eqF_str, neF_str, andF_true, andF_false, orF_true, orF_false, isiF_list, isiF_str, isiF_int, isiF_bool, modF_lit, divF_lit, negF_int, notF_bool, asIntR_int, intF_bool, maxF_two, isF_int_none, isF_none_none, isF_list_none, itemF_tup0, itemF_tup1, methF_str, Nat.reduceLT, decide_true, decide_false, beq_self_eq_true, Bool.not_true, Bool.not_false, itemLv_int, itemLv_str, itemLv_list, itemLv_bool, itemLv_none, lvOf_strs, lvOf_ints, ne_eq, not_false_eq_true, not_true_eq_false, s_law_2, c0, hc]⟩
  · cases hd : ((a0.fdiv 4).fmod 4 == 1)
    · have mu : mulF [.int 15, .int 0] = some (.ok (.int 0, 2)) := by rfl
      have m : mulF [.str t0, .int 5] = _ := mulF_str t0 5 (by unfold lim; omega) (by decide)
      refine ⟨t0, repL t0 ((5 : Nat) : Int), by rw [repL_len]; omega, e1, by simp only [getV_s, getV_z, bindR_ok, bindR_exc, bindE_ok, bindE_exc, bindO_next, bindO_ret, bindO_exc, bindO_raise, bindO_brk, bindO_cont, setV_int, setV_str, setV_bool, setV_none, setV_list2, List.set_cons_succ, List.set_cons_zero, truthD_bool, Option.map_some, if_true, if_false, Bool.false_eq_true, retV_z, retV_s, addF_int, subF_int, ltF_int, leF_int, gtF_int, geF_int, eqF_int, neF_int, eqF_str, neF_str, andF_true, andF_false, orF_true, orF_false, isiF_list, isiF_str, isiF_int, isiF_bool, modF_lit, divF_lit, negF_int, notF_bool, asIntR_int, intF_bool, maxF_two, isF_int_none, isF_none_none, isF_list_none, itemF_tup0, itemF_tup1, methF_str, Nat.reduceLT, decide_true, decide_false, beq_self_eq_true, Bool.not_true, Bool.not_false, itemLv_int, itemLv_str, itemLv_list, itemLv_bool, itemLv_none, lvOf_strs, lvOf_ints, ne_eq, not_false_eq_true, not_true_eq_false, s_law_2, c0, hc, hd, mu, Int.add_zero, m]⟩
    · have mu : mulF [.int 15, .int 1] = some (.ok (.int 15, 2)) := by rfl
      have ad : (5 : Int) + 15 = 20 := rfl
      have m : mulF [.str t0, .int 20] = some (.ok (.str (repL t0 ((20 : Nat) : Int)), 2)) := mulF_str t0 20 (by unfold lim; omega) (by decide)
      refine ⟨t0, repL t0 ((20 : Nat) : Int), by rw [repL_len]; omega, e1, by simp only [getV_s, getV_z, bindR_ok, bindR_exc, bindE_ok, bindE_exc, bindO_next, bindO_ret, bindO_exc, bindO_raise, bindO_brk, bindO_cont, setV_int, setV_str, setV_bool, setV_none, setV_list2, List.set_cons_succ, List.set_cons_zero, truthD_bool, Option.map_some, if_true, if_false, Bool.false_eq_true, retV_z, retV_s, addF_int, subF_int, ltF_int, leF_int, gtF_int, geF_int, eqF_int, neF_int, eqF_str, neF_str, andF_true, andF_false, orF_true, orF_false, isiF_list, isiF_str, isiF_int, isiF_bool, modF_lit, divF_lit, negF_int, notF_bool, asIntR_int, intF_bool, maxF_two, isF_int_none, isF_none_none, isF_list_none, itemF_tup0, itemF_tup1, methF_str, Nat.reduceLT, decide_true, decide_false, beq_self_eq_true, Bool.not_true, Bool.not_false, itemLv_int, itemLv_str, itemLv_list, itemLv_bool, itemLv_none, lvOf_strs, lvOf_ints, ne_eq, not_false_eq_true, not_true_eq_false, s_law_2, c0, hc, hd, mu, ad, m]⟩
theorem width_head (ns : List Int) (h : ns.length ≤ 63) (PD : D) (m : Nat) (hm : m ≤ 60000) (hL : F__law_longest [PD] = some (.ok (.int (m : Int), 2))) (s1 : Option (D × Nat)) (tl : G) : ∃ w0 w1 w2 w3 w4 : Int, GW w4 ∧
    s_law_4 (some (.list (ns.map .int), 0) :: s1 :: some (PD, 2) :: none :: tl) = some (.next (some (.list (ns.map .int), 0) :: s1 :: some (PD, 2) :: some (.int w0, 2) :: tl)) ∧
    s_law_5 (some (.list (ns.map .int), 0) :: s1 :: some (PD, 2) :: some (.int w0, 2) :: tl) = some (.next (some (.list (ns.map .int), 0) :: s1 :: some (PD, 2) :: some (.int w1, 2) :: tl)) ∧
    s_law_6 (some (.list (ns.map .int), 0) :: s1 :: some (PD, 2) :: some (.int w1, 2) :: tl) = some (.next (some (.list (ns.map .int), 0) :: s1 :: some (PD, 2) :: some (.int w2, 2) :: tl)) ∧
    s_law_7 (some (.list (ns.map .int), 0) :: s1 :: some (PD, 2) :: some (.int w2, 2) :: tl) = some (.next (some (.list (ns.map .int), 0) :: s1 :: some (PD, 2) :: some (.int w3, 2) :: tl)) ∧
    s_law_8 (some (.list (ns.map .int), 0) :: s1 :: some (PD, 2) :: some (.int w3, 2) :: tl) = some (.next (some (.list (ns.map .int), 0) :: s1 :: some (PD, 2) :: some (.int w4, 2) :: tl)) := by
  obtain ⟨l1, c1⟩ := cell_at_ok ns 1 h
  generalize ns.getD 1 0 = a1 at c1
  replace c1 : F__law_cell_at [.list (ns.map .int), .int 1] = _ := c1
  obtain ⟨q0, hq0, eq0⟩ := fmod_nat a1 41 (by decide)
  have eq0 : a1.fmod 41 = (q0 : Int) := eq0
  have h4 : s_law_4 (some (.list (ns.map .int), 0) :: s1 :: some (PD, 2) :: none :: tl) = some (.next (some (.list (ns.map .int), 0) :: s1 :: some (PD, 2) :: some (.int (q0 : Int), 2) :: tl)) := by simp only [getV_s, getV_z, bindR_ok, bindR_exc, bindE_ok, bindE_exc, bindO_next, bindO_ret, bindO_exc, bindO_raise, bindO_brk, bindO_cont, setV_int, setV_str, setV_bool, setV_none, setV_list2, List.set_cons_succ, List.set_cons_zero, truthD_bool, Option.map_some, if_true, if_false, Bool.false_eq_true, retV_z, retV_s, addF_int, subF_int, ltF_int, leF_int, gtF_int, geF_int, eqF_int, neF_int, eqF_str, neF_str, andF_true, andF_false, orF_true, orF_false, isiF_list, isiF_str, isiF_int, isiF_bool, modF_lit, divF_lit, negF_int, notF_bool, asIntR_int, intF_bool, maxF_two, isF_int_none, isF_none_none, isF_list_none, itemF_tup0, itemF_tup1, methF_str, Nat.reduceLT, decide_true, decide_false, beq_self_eq_true, Bool.not_true, Bool.not_false, itemLv_int, itemLv_str, itemLv_list, itemLv_bool, itemLv_none, lvOf_strs, lvOf_ints, ne_eq, not_false_eq_true, not_true_eq_false, s_law_4, c1, eq0]
  obtain ⟨w1, g1, h5⟩ : ∃ w1, GW w1 ∧ s_law_5 (some (.list (ns.map .int), 0) :: s1 :: some (PD, 2) :: some (.int (q0 : Int), 2) :: tl) = some (.next (some (.list (ns.map .int), 0) :: s1 :: some (PD, 2) :: some (.int w1, 2) :: tl)) := by
    by_cases hc : 0 < (a1.fdiv 41).fmod 4
    · obtain ⟨q, hq, eq⟩ := fmod_nat a1 17 (by decide)
      have eq : a1.fmod 17 = (q : Int) := eq
      exact ⟨(m : Int) + (q : Int), by unfold GW; omega, by simp only [getV_s, getV_z, bindR_ok, bindR_exc, bindE_ok, bindE_exc, bindO_next, bindO_ret, bindO_exc, bindO_raise, bindO_brk, bindO_cont, setV_int, setV_str, setV_bool, setV_none, setV_list2, List.set_cons_succ, List.set_cons_zero, truthD_bool, Option.map_some, if_true, if_false, Bool.false_eq_true, retV_z, retV_s, addF_int, subF_int, ltF_int, leF_int, gtF_int, geF_int, eqF_int, neF_int, eqF_str, neF_str, andF_true, andF_false, orF_true, orF_false, isiF_list, isiF_str, isiF_int, isiF_bool, modF_lit, divF_lit, negF_int, notF_bool, asIntR_int, intF_bool, maxF_two, isF_int_none, isF_none_none, isF_list_none, itemF_tup0, itemF_tup1, methF_str, Nat.reduceLT, decide_true, decide_false, beq_self_eq_true, Bool.not_true, Bool.not_false, itemLv_int, itemLv_str, itemLv_list, itemLv_bool, itemLv_none, lvOf_strs, lvOf_ints, ne_eq, not_false_eq_true, not_true_eq_false, s_law_5, c1, hc, hL, eq]⟩
    · exact ⟨(q0 : Int), by unfold GW; omega, by simp only [getV_s, getV_z, bindR_ok, bindR_exc, bindE_ok, bindE_exc, bindO_next, bindO_ret, bindO_exc, bindO_raise, bindO_brk, bindO_cont, setV_int, setV_str, setV_bool, setV_none, setV_list2, List.set_cons_succ, List.set_cons_zero, truthD_bool, Option.map_some, if_true, if_false, Bool.false_eq_true, retV_z, retV_s, addF_int, subF_int, ltF_int, leF_int, gtF_int, geF_int, eqF_int, neF_int, eqF_str, neF_str, andF_true, andF_false, orF_true, orF_false, isiF_list, isiF_str, isiF_int, isiF_bool, modF_lit, divF_lit, negF_int, notF_bool, asIntR_int, intF_bool, maxF_two, isF_int_none, isF_none_none, isF_list_none, itemF_tup0, itemF_tup1, methF_str, Nat.reduceLT, decide_true, decide_false, beq_self_eq_true, Bool.not_true, Bool.not_false, itemLv_int, itemLv_str, itemLv_list, itemLv_bool, itemLv_none, lvOf_strs, lvOf_ints, ne_eq, not_false_eq_true, not_true_eq_false, s_law_5, c1, hc]⟩
  obtain ⟨w2, g2, h6⟩ : ∃ w2, GW w2 ∧ s_law_6 (some (.list (ns.map .int), 0) :: s1 :: some (PD, 2) :: some (.int w1, 2) :: tl) = some (.next (some (.list (ns.map .int), 0) :: s1 :: some (PD, 2) :: some (.int w2, 2) :: tl)) := by
    cases hc : ((a1.fdiv 41).fmod 4 == 3)
    · exact ⟨w1, g1, by simp only [getV_s, getV_z, bindR_ok, bindR_exc, bindE_ok, bindE_exc, bindO_next, bindO_ret, bindO_exc, bindO_raise, bindO_brk, bindO_cont, setV_int, setV_str, setV_bool, setV_none, setV_list2, List.set_cons_succ, List.set_cons_zero, truthD_bool, Option.map_some, if_true, if_false, Bool.false_eq_true, retV_z, retV_s, addF_int, subF_int, ltF_int, leF_int, gtF_int, geF_int, eqF_int, neF_int, eqF_str, neF_str, andF_true, andF_false, orF_true, orF_false, isiF_list, isiF_str, isiF_int, isiF_bool, modF_lit, divF_lit, negF_int, notF_bool, asIntR_int, intF_bool, maxF_two, isF_int_none, isF_none_none, isF_list_none, itemF_tup0, itemF_tup1, methF_str, Nat.reduceLT, decide_true, decide_false, beq_self_eq_true, Bool.not_true, Bool.not_false, itemLv_int, itemLv_str, itemLv_list, itemLv_bool, itemLv_none, lvOf_strs, lvOf_ints, ne_eq, not_false_eq_true, not_true_eq_false, s_law_6, c1, hc]⟩
    · obtain ⟨q, hq, eq⟩ := fmod_nat (a1.fdiv 164) 200 (by decide)
      have eq : (a1.fdiv 164).fmod 200 = (q : Int) := eq
      exact ⟨41 + (q : Int), by unfold GW; omega, by simp only [getV_s, getV_z, bindR_ok, bindR_exc, bindE_ok, bindE_exc, bindO_next, bindO_ret, bindO_exc, bindO_raise, bindO_brk, bindO_cont, setV_int, setV_str, setV_bool, setV_none, setV_list2, List.set_cons_succ, List.set_cons_zero, truthD_bool, Option.map_some, if_true, if_false, Bool.false_eq_true, retV_z, retV_s, addF_int, subF_int, ltF_int, leF_int, gtF_int, geF_int, eqF_int, neF_int, eqF_str, neF_str, andF_true, andF_false, orF_true, orF_false, isiF_list, isiF_str, isiF_int, isiF_bool, modF_lit, divF_lit, negF_int, notF_bool, asIntR_int, intF_bool, maxF_two, isF_int_none, isF_none_none, isF_list_none, itemF_tup0, itemF_tup1, methF_str, Nat.reduceLT, decide_true, decide_false, beq_self_eq_true, Bool.not_true, Bool.not_false, itemLv_int, itemLv_str, itemLv_list, itemLv_bool, itemLv_none, lvOf_strs, lvOf_ints, ne_eq, not_false_eq_true, not_true_eq_false, s_law_6, c1, hc, eq]⟩
  obtain ⟨w3, g3, h7⟩ : ∃ w3, GW w3 ∧ s_law_7 (some (.list (ns.map .int), 0) :: s1 :: some (PD, 2) :: some (.int w2, 2) :: tl) = some (.next (some (.list (ns.map .int), 0) :: s1 :: some (PD, 2) :: some (.int w3, 2) :: tl)) := by
    cases hc : ((a1.fdiv 123).fmod 9 == 1)
    · exact ⟨w2, g2, by simp only [getV_s, getV_z, bindR_ok, bindR_exc, bindE_ok, bindE_exc, bindO_next, bindO_ret, bindO_exc, bindO_raise, bindO_brk, bindO_cont, setV_int, setV_str, setV_bool, setV_none, setV_list2, List.set_cons_succ, List.set_cons_zero, truthD_bool, Option.map_some, if_true, if_false, Bool.false_eq_true, retV_z, retV_s, addF_int, subF_int, ltF_int, leF_int, gtF_int, geF_int, eqF_int, neF_int, eqF_str, neF_str, andF_true, andF_false, orF_true, orF_false, isiF_list, isiF_str, isiF_int, isiF_bool, modF_lit, divF_lit, negF_int, notF_bool, asIntR_int, intF_bool, maxF_two, isF_int_none, isF_none_none, isF_list_none, itemF_tup0, itemF_tup1, methF_str, Nat.reduceLT, decide_true, decide_false, beq_self_eq_true, Bool.not_true, Bool.not_false, itemLv_int, itemLv_str, itemLv_list, itemLv_bool, itemLv_none, lvOf_strs, lvOf_ints, ne_eq, not_false_eq_true, not_true_eq_false, s_law_7, c1, hc]⟩
    · have p : powF [.int 10, .int 30] = _ := powF_10 30 (by decide)
      exact ⟨10 ^ 30, .inr (by decide), by simp only [getV_s, getV_z, bindR_ok, bindR_exc, bindE_ok, bindE_exc, bindO_next, bindO_ret, bindO_exc, bindO_raise, bindO_brk, bindO_cont, setV_int, setV_str, setV_bool, setV_none, setV_list2, List.set_cons_succ, List.set_cons_zero, truthD_bool, Option.map_some, if_true, if_false, Bool.false_eq_true, retV_z, retV_s, addF_int, subF_int, ltF_int, leF_int, gtF_int, geF_int, eqF_int, neF_int, eqF_str, neF_str, andF_true, andF_false, orF_true, orF_false, isiF_list, isiF_str, isiF_int, isiF_bool, modF_lit, divF_lit, negF_int, notF_bool, asIntR_int, intF_bool, maxF_two, isF_int_none, isF_none_none, isF_list_none, itemF_tup0, itemF_tup1, methF_str, Nat.reduceLT, decide_true, decide_false, beq_self_eq_true, Bool.not_true, Bool.not_false, itemLv_int, itemLv_str, itemLv_list, itemLv_bool, itemLv_none, lvOf_strs, lvOf_ints, ne_eq, not_false_eq_true, not_true_eq_false, s_law_7, c1, hc, p]⟩
  obtain ⟨w4, g4, h8⟩ : ∃ w4, GW w4 ∧ s_law_8 (some (.list (ns.map .int), 0) :: s1 :: some (PD, 2) :: some (.int w3, 2) :: tl) = some (.next (some (.list (ns.map .int), 0) :: s1 :: some (PD, 2) :: some (.int w4, 2) :: tl)) := by
    cases hc : ((a1.fdiv 123).fmod 9 == 2)
    · exact ⟨w3, g3, by simp only [getV_s, getV_z, bindR_ok, bindR_exc, bindE_ok, bindE_exc, bindO_next, bindO_ret, bindO_exc, bindO_raise, bindO_brk, bindO_cont, setV_int, setV_str, setV_bool, setV_none, setV_list2, List.set_cons_succ, List.set_cons_zero, truthD_bool, Option.map_some, if_true, if_false, Bool.false_eq_true, retV_z, retV_s, addF_int, subF_int, ltF_int, leF_int, gtF_int, geF_int, eqF_int, neF_int, eqF_str, neF_str, andF_true, andF_false, orF_true, orF_false, isiF_list, isiF_str, isiF_int, isiF_bool, modF_lit, divF_lit, negF_int, notF_bool, asIntR_int, intF_bool, maxF_two, isF_int_none, isF_none_none, isF_list_none, itemF_tup0, itemF_tup1, methF_str, Nat.reduceLT, decide_true, decide_false, beq_self_eq_true, Bool.not_true, Bool.not_false, itemLv_int, itemLv_str, itemLv_list, itemLv_bool, itemLv_none, lvOf_strs, lvOf_ints, ne_eq, not_false_eq_true, not_true_eq_false, s_law_8, c1, hc]⟩
    · obtain ⟨r, hr, er⟩ := fmod_nat a1 (10 ^ 9) (by decide)
      have p : powF [.int 10, .int 9] = _ := powF_10 9 (by decide)
      have md : modF [.int a1, .int (10 ^ 9)] = some (.ok (.int (r : Int), 2)) := by rw [modF_int _ _ (by decide), ← er]; rfl
      have hr' : r < 1000000000 := hr
      exact ⟨-(r : Int), .inl (by omega), by simp only [getV_s, getV_z, bindR_ok, bindR_exc, bindE_ok, bindE_exc, bindO_next, bindO_ret, bindO_exc, bindO_raise, bindO_brk, bindO_cont, setV_int, setV_str, setV_bool, setV_none, setV_list2, List.set_cons_succ, List.set_cons_zero, truthD_bool, Option.map_some, if_true, if_false, Bool.false_eq_true, retV_z, retV_s, addF_int, subF_int, ltF_int, leF_int, gtF_int, geF_int, eqF_int, neF_int, eqF_str, neF_str, andF_true, andF_false, orF_true, orF_false, isiF_list, isiF_str, isiF_int, isiF_bool, modF_lit, divF_lit, negF_int, notF_bool, asIntR_int, intF_bool, maxF_two, isF_int_none, isF_none_none, isF_list_none, itemF_tup0, itemF_tup1, methF_str, Nat.reduceLT, decide_true, decide_false, beq_self_eq_true, Bool.not_true, Bool.not_false, itemLv_int, itemLv_str, itemLv_list, itemLv_bool, itemLv_none, lvOf_strs, lvOf_ints, ne_eq, not_false_eq_true, not_true_eq_false, s_law_8, c1, hc, p, md]⟩
  exact ⟨_, w1, w2, w3, w4, g4, h4, h5, h6, h7, h8⟩

theorem block_ok (p : Para) (w : Int) (h1 : 1 ≤ w) (hs : (p.map List.length).sum + p.length ≤ 90000) (hwb : w.natAbs ≤ 1000000000000000000000000000000000000) (hb : ∀ x ∈ p, (x.length : Int) ≤ w) :
    F_best_starts [.list (p.map .str), .int w] = some (.ok (.list ((nz (best p w)).map .int), 2)) ∧ F_lines_of [.list (p.map .str), .list ((nz (best p w)).map .int)] = some (.ok (.list (((cutL p (best p w)).map (joinN [32])).map .str), 2)) := by
  have hv := best_VS hb
  have hfl : (nz (best p w)).length ≤ 1000000 := by rw [nz_len]; have := hv.1; omega
  refine ⟨best_starts_ok p w h1 (by omega) (by omega) hwb hb, ?_⟩
  rw [lines_of_ok p _ (by omega) (by omega) hfl, if_pos hv.good, lines_cut hv]
theorem sq_join (p : Para) (w : Int) (h1 : 1 ≤ w) (hs : (p.map List.length).sum + p.length ≤ 90000) (hb : ∀ x ∈ p, (x.length : Int) ≤ w) : joinF [.str [10], .list ((sqL w p (best p w)).map .str)] = some (.ok (.str (sqB w p), 2)) := by
  have h2 := sqL_sum (by omega : 0 ≤ w) hb
  have h3 := sqL_len (best_VS hb)
  exact joinF_strs [10] _ (by unfold totalN lim; simp only [List.length_cons, List.length_nil]; omega)
/-- what is known of a line that is spread -/
theorem cut_facts {p : Para} {w : Int} (h1 : 1 ≤ w) (hs : (p.map List.length).sum + p.length ≤ 90000) (hb : ∀ x ∈ p, (x.length : Int) ≤ w) {l : Para} (hl : l ∈ (cutL p (best p w)).dropLast) :
    l ∈ cutL p (best p w) ∧ 1 ≤ w.toNat ∧ w.toNat ≤ 1000000 ∧ w = (w.toNat : Int) ∧ l.length ≤ 90000 ∧ (l.map List.length).sum ≤ 90000 ∧ sz l 0 l.length ≤ w.toNat ∧ ∀ x ∈ l, x ∈ p := by
  have hv := best_VS hb
  have hm := (List.dropLast_sublist _).subset hl
  have hlen : 1 < (best p w).length := by
    have := List.length_pos_iff.mpr (List.ne_nil_of_mem hl)
    rw [List.length_dropLast, cut_len] at this; omega
  have hd := dense_le hb hlen
  have hsub := para_sub hm
  rw [cut_flat hv] at hsub
  have s1 := sum_sub hsub
  have s2 := hsub.length_le
  have hz := cut_sz hv l hm
  exact ⟨hm, by omega, by omega, by omega, by omega, by omega, by omega, fun x hx => hsub.subset hx⟩
theorem sqlines_ok (p : Para) (w : Int) (h1 : 1 ≤ w) (hs : (p.map List.length).sum + p.length ≤ 90000) (hwb : w.natAbs ≤ 1000000000000000000000000000000000000) (hg : ∀ x ∈ p, goodW x) (hb : ∀ x ∈ p, (x.length : Int) ≤ w) :
    F_squared_lines [.list (p.map .str), .int w] = some (.ok (.list ((sqL w p (best p w)).map .str), 2)) ∧ joinF [.str [10], .list ((sqL w p (best p w)).map .str)] = some (.ok (.str (sqB w p), 2)) := by
  refine ⟨?_, sq_join p w h1 hs hb⟩
  have hga : argG 1 [.list (p.map D.str), .int w] = [some (.list (p.map .str), 0), some (.int w, 2), none] := rfl
  obtain ⟨b1, b2⟩ := block_ok p w h1 hs hwb hb
  have hv := best_VS hb
  have hcf := fun l hl => cut_facts h1 hs hb (l := l) hl
  generalize hfs : best p w = fs at b1 b2 hv hcf
  have hfl := hv.1
  have hll : ((cutL p fs).map (joinN [32])).length ≤ lim := by rw [List.length_map, cut_len]; unfold lim; omega
  have hc := compF_src (fE := e_squared_lines_1) (cap := [1]) (Γ := [some (.list (p.map .str), 0), some (.int w, 2), some (.list (((cutL p fs).map (joinN [32])).map .str), 2)]) (fun l => D.str (joinN [32] l)) (fun l => .str (spreadT l w.toNat)) (cutL p fs).dropLast (by
    intro l hl
    obtain ⟨f1, f2, f3, f4, f5, f6, f7, f8⟩ := hcf l hl
    have hgl : ∀ x ∈ l, goodW x := fun x hx => hg x (f8 x hx)
    have hjl := join_le (sep := [32]) l
    simp only [List.length_cons, List.length_nil] at hjl
    have hwo := words_of_ok (joinN [32] l) (by omega)
    rw [words_join hgl] at hwo
    have hsp := spread_ok l w.toNat f2 f3 f5 (by omega) f7
    rw [← f4] at hsp
    exact ⟨2, by simp only [getV_s, getV_z, bindR_ok, bindR_exc, bindE_ok, bindE_exc, bindO_next, bindO_ret, bindO_exc, bindO_raise, bindO_brk, bindO_cont, setV_int, setV_str, setV_bool, setV_none, setV_list2, List.set_cons_succ, List.set_cons_zero, truthD_bool, Option.map_some, if_true, if_false, Bool.false_eq_true, retV_z, retV_s, addF_int, subF_int, ltF_int, leF_int, gtF_int, geF_int, eqF_int, neF_int, eqF_str, neF_str, andF_true, andF_false, orF_true, orF_false, isiF_list, isiF_str, isiF_int, isiF_bool, modF_lit, divF_lit, negF_int, notF_bool, asIntR_int, intF_bool, maxF_two, isF_int_none, isF_none_none, isF_list_none, itemF_tup0, itemF_tup1, methF_str, Nat.reduceLT, decide_true, decide_false, beq_self_eq_true, Bool.not_true, Bool.not_false, itemLv_int, itemLv_str, itemLv_list, itemLv_bool, itemLv_none, lvOf_strs, lvOf_ints, ne_eq, not_false_eq_true, not_true_eq_false, e_squared_lines_1, compG, List.map_cons, List.map_nil, List.getElem?_cons_zero, List.getElem?_cons_succ, Option.join_some, hwo, hsp]⟩)
  have hm1 : (cutL p fs).dropLast.map (fun l => D.str (joinN [32] l)) = ((cutL p fs).map (joinN [32])).dropLast.map .str := by rw [← List.map_dropLast, List.map_map]; rfl
  have hm2 : (cutL p fs).dropLast.map (fun l => D.str (spreadT l w.toNat)) = ((cutL p fs).dropLast.map fun l => spreadT l w.toNat).map .str := by rw [List.map_map]; rfl
  rw [hm1, hm2, lvOf_strs] at hc
  have hit := fun lv => itF_map D.str ((cutL p fs).map (joinN [32])).dropLast lv (by rw [List.length_dropLast]; omega)
  have had := addF_maps D.str ((cutL p fs).dropLast.map fun l => spreadT l w.toNat) (((cutL p fs).map (joinN [32])).drop (((cutL p fs).map (joinN [32])).length - 1)) (by rw [List.length_map, List.length_dropLast, List.length_drop, List.length_map, cut_len]; unfold lim; omega)
  have he : ((cutL p fs).dropLast.map fun l => spreadT l w.toNat) ++ (((cutL p fs).map (joinN [32])).drop (((cutL p fs).map (joinN [32])).length - 1)) = sqL w p fs := by
    unfold sqL; rw [List.length_map, cut_len, List.map_drop]
  rw [he, lvOf_strs] at had
  unfold F_squared_lines
  rw [fnF_of (by rfl), hga]
  unfold f_squared_lines
  simp only [getV_s, getV_z, bindR_ok, bindR_exc, bindE_ok, bindE_exc, bindO_next, bindO_ret, bindO_exc, bindO_raise, bindO_brk, bindO_cont, setV_int, setV_str, setV_bool, setV_none, setV_list2, List.set_cons_succ, List.set_cons_zero, truthD_bool, Option.map_some, if_true, if_false, Bool.false_eq_true, retV_z, retV_s, addF_int, subF_int, ltF_int, leF_int, gtF_int, geF_int, eqF_int, neF_int, eqF_str, neF_str, andF_true, andF_false, orF_true, orF_false, isiF_list, isiF_str, isiF_int, isiF_bool, modF_lit, divF_lit, negF_int, notF_bool, asIntR_int, intF_bool, maxF_two, isF_int_none, isF_none_none, isF_list_none, itemF_tup0, itemF_tup1, methF_str, Nat.reduceLT, decide_true, decide_false, beq_self_eq_true, Bool.not_true, Bool.not_false, itemLv_int, itemLv_str, itemLv_list, itemLv_bool, itemLv_none, lvOf_strs, lvOf_ints, ne_eq, not_false_eq_true, not_true_eq_false, s_squared_lines_1, b1, b2]
  simp only [getV_s, getV_z, bindR_ok, bindR_exc, bindE_ok, bindE_exc, bindO_next, bindO_ret, bindO_exc, bindO_raise, bindO_brk, bindO_cont, setV_int, setV_str, setV_bool, setV_none, setV_list2, List.set_cons_succ, List.set_cons_zero, truthD_bool, Option.map_some, if_true, if_false, Bool.false_eq_true, retV_z, retV_s, addF_int, subF_int, ltF_int, leF_int, gtF_int, geF_int, eqF_int, neF_int, eqF_str, neF_str, andF_true, andF_false, orF_true, orF_false, isiF_list, isiF_str, isiF_int, isiF_bool, modF_lit, divF_lit, negF_int, notF_bool, asIntR_int, intF_bool, maxF_two, isF_int_none, isF_none_none, isF_list_none, itemF_tup0, itemF_tup1, methF_str, Nat.reduceLT, decide_true, decide_false, beq_self_eq_true, Bool.not_true, Bool.not_false, itemLv_int, itemLv_str, itemLv_list, itemLv_bool, itemLv_none, lvOf_strs, lvOf_ints, ne_eq, not_false_eq_true, not_true_eq_false, s_squared_lines_2, sliceF_strs _ _ _ hll, sliceL_but, sliceL_lastL, hit, hc, had]
  rfl
theorem squared_low (t : List Nat) (w : Int) (h : t.length ≤ 200000) (hw : w < 1) : F_squared [.str t, .int w] = some (.exc "NoWidth") := by
  have hg : argG 1 [.str t, .int w] = [some (.str t, 2), some (.int w, 2), none] := rfl
  unfold F_squared
  rw [fnF_of (by rfl), hg]
  unfold f_squared
  simp only [getV_s, getV_z, bindR_ok, bindR_exc, bindE_ok, bindE_exc, bindO_next, bindO_ret, bindO_exc, bindO_raise, bindO_brk, bindO_cont, setV_int, setV_str, setV_bool, setV_none, setV_list2, List.set_cons_succ, List.set_cons_zero, truthD_bool, Option.map_some, if_true, if_false, Bool.false_eq_true, retV_z, retV_s, addF_int, subF_int, ltF_int, leF_int, gtF_int, geF_int, eqF_int, neF_int, eqF_str, neF_str, andF_true, andF_false, orF_true, orF_false, isiF_list, isiF_str, isiF_int, isiF_bool, modF_lit, divF_lit, negF_int, notF_bool, asIntR_int, intF_bool, maxF_two, isF_int_none, isF_none_none, isF_list_none, itemF_tup0, itemF_tup1, methF_str, Nat.reduceLT, decide_true, decide_false, beq_self_eq_true, Bool.not_true, Bool.not_false, itemLv_int, itemLv_str, itemLv_list, itemLv_bool, itemLv_none, lvOf_strs, lvOf_ints, ne_eq, not_false_eq_true, not_true_eq_false, s_squared_1, words_of_ok t h, need_words_low (wordsN t) w hw]
  rfl
theorem squared_long (t : List Nat) (w : Int) (h : t.length ≤ 200000) (h1 : 1 ≤ w) (hl : (wordsN t).length ≤ lim) (hw : ∀ x ∈ wordsN t, x.length ≤ big) (hb : ¬ ∀ x ∈ wordsN t, (x.length : Int) ≤ w) : F_squared [.str t, .int w] = some (.exc "LongWord") := by
  have hg : argG 1 [.str t, .int w] = [some (.str t, 2), some (.int w, 2), none] := rfl
  unfold F_squared
  rw [fnF_of (by rfl), hg]
  unfold f_squared
  simp only [getV_s, getV_z, bindR_ok, bindR_exc, bindE_ok, bindE_exc, bindO_next, bindO_ret, bindO_exc, bindO_raise, bindO_brk, bindO_cont, setV_int, setV_str, setV_bool, setV_none, setV_list2, List.set_cons_succ, List.set_cons_zero, truthD_bool, Option.map_some, if_true, if_false, Bool.false_eq_true, retV_z, retV_s, addF_int, subF_int, ltF_int, leF_int, gtF_int, geF_int, eqF_int, neF_int, eqF_str, neF_str, andF_true, andF_false, orF_true, orF_false, isiF_list, isiF_str, isiF_int, isiF_bool, modF_lit, divF_lit, negF_int, notF_bool, asIntR_int, intF_bool, maxF_two, isF_int_none, isF_none_none, isF_list_none, itemF_tup0, itemF_tup1, methF_str, Nat.reduceLT, decide_true, decide_false, beq_self_eq_true, Bool.not_true, Bool.not_false, itemLv_int, itemLv_str, itemLv_list, itemLv_bool, itemLv_none, lvOf_strs, lvOf_ints, ne_eq, not_false_eq_true, not_true_eq_false, s_squared_1, words_of_ok t h, need_words_long (wordsN t) w h1 hl hw hb]
  rfl
theorem squared_ok (t : List Nat) (P : List Para) (w : Int) (hP : parasN t = P) (h : t.length ≤ 200000) (hs : (P.flatten.map List.length).sum + P.flatten.length ≤ 90000) (h1 : 1 ≤ w) (hwb : w.natAbs ≤ 1000000000000000000000000000000000000) (hb : ∀ x ∈ P.flatten, (x.length : Int) ≤ w) :
    F_squared [.str t, .int w] = some (.ok (.str (sqT w P), 2)) := by
  have hg : argG 1 [.str t, .int w] = [some (.str t, 2), some (.int w, 2), none] := rfl
  have hgood : goodP P := hP ▸ parasN_good t
  have hcount := paras_count hgood
  have hwn : wordsN t = P.flatten := by rw [words_flat, hP]
  have hxb : ∀ x ∈ P.flatten, x.length ≤ big := fun x hx => by have := mem_sum hx; unfold big; omega
  have hnw := need_words_ok P.flatten w h1 (by unfold lim; omega) hxb hb
  have hwo := words_of_ok t h
  rw [hwn] at hwo
  have hpo := paragraphs_ok t h
  rw [hP] at hpo
  have hPl : P.length ≤ lim := by unfold lim; omega
  have hc := compF_src (fE := e_squared_1) (cap := [1]) (Γ := [some (.str t, 2), some (.int w, 2), none]) paraD (fun p => .str (sqB w p)) P (by
    intro p hp
    have s1 := sum_sub (para_sub hp)
    have s2 := (para_sub hp).length_le
    obtain ⟨b1, b2⟩ := sqlines_ok p w h1 (by omega) hwb (hgood p hp).2 fun x hx => hb x (List.mem_flatten.mpr ⟨p, hp, hx⟩)
    exact ⟨2, by simp only [getV_s, getV_z, bindR_ok, bindR_exc, bindE_ok, bindE_exc, bindO_next, bindO_ret, bindO_exc, bindO_raise, bindO_brk, bindO_cont, setV_int, setV_str, setV_bool, setV_none, setV_list2, List.set_cons_succ, List.set_cons_zero, truthD_bool, Option.map_some, if_true, if_false, Bool.false_eq_true, retV_z, retV_s, addF_int, subF_int, ltF_int, leF_int, gtF_int, geF_int, eqF_int, neF_int, eqF_str, neF_str, andF_true, andF_false, orF_true, orF_false, isiF_list, isiF_str, isiF_int, isiF_bool, modF_lit, divF_lit, negF_int, notF_bool, asIntR_int, intF_bool, maxF_two, isF_int_none, isF_none_none, isF_list_none, itemF_tup0, itemF_tup1, methF_str, Nat.reduceLT, decide_true, decide_false, beq_self_eq_true, Bool.not_true, Bool.not_false, itemLv_int, itemLv_str, itemLv_list, itemLv_bool, itemLv_none, lvOf_strs, lvOf_ints, ne_eq, not_false_eq_true, not_true_eq_false, e_squared_1, compG, List.map_cons, List.map_nil, List.getElem?_cons_zero, List.getElem?_cons_succ, Option.join_some, paraD, b1, b2]⟩)
  have hm : P.map (fun p => D.str (sqB w p)) = (P.map (sqB w)).map .str := by rw [List.map_map]; rfl
  rw [hm, lvOf_strs] at hc
  have hsum := sqBs_sum (by omega) hb
  have hj := joinF_strs [10, 10] (P.map (sqB w)) (by unfold totalN lim; simp only [List.length_cons, List.length_nil, List.length_map] at hsum ⊢; omega)
  unfold F_squared
  rw [fnF_of (by rfl), hg]
  unfold f_squared
  simp only [getV_s, getV_z, bindR_ok, bindR_exc, bindE_ok, bindE_exc, bindO_next, bindO_ret, bindO_exc, bindO_raise, bindO_brk, bindO_cont, setV_int, setV_str, setV_bool, setV_none, setV_list2, List.set_cons_succ, List.set_cons_zero, truthD_bool, Option.map_some, if_true, if_false, Bool.false_eq_true, retV_z, retV_s, addF_int, subF_int, ltF_int, leF_int, gtF_int, geF_int, eqF_int, neF_int, eqF_str, neF_str, andF_true, andF_false, orF_true, orF_false, isiF_list, isiF_str, isiF_int, isiF_bool, modF_lit, divF_lit, negF_int, notF_bool, asIntR_int, intF_bool, maxF_two, isF_int_none, isF_none_none, isF_list_none, itemF_tup0, itemF_tup1, methF_str, Nat.reduceLT, decide_true, decide_false, beq_self_eq_true, Bool.not_true, Bool.not_false, itemLv_int, itemLv_str, itemLv_list, itemLv_bool, itemLv_none, lvOf_strs, lvOf_ints, ne_eq, not_false_eq_true, not_true_eq_false, s_squared_1, hwo, hnw]
  simp only [getV_s, getV_z, bindR_ok, bindR_exc, bindE_ok, bindE_exc, bindO_next, bindO_ret, bindO_exc, bindO_raise, bindO_brk, bindO_cont, setV_int, setV_str, setV_bool, setV_none, setV_list2, List.set_cons_succ, List.set_cons_zero, truthD_bool, Option.map_some, if_true, if_false, Bool.false_eq_true, retV_z, retV_s, addF_int, subF_int, ltF_int, leF_int, gtF_int, geF_int, eqF_int, neF_int, eqF_str, neF_str, andF_true, andF_false, orF_true, orF_false, isiF_list, isiF_str, isiF_int, isiF_bool, modF_lit, divF_lit, negF_int, notF_bool, asIntR_int, intF_bool, maxF_two, isF_int_none, isF_none_none, isF_list_none, itemF_tup0, itemF_tup1, methF_str, Nat.reduceLT, decide_true, decide_false, beq_self_eq_true, Bool.not_true, Bool.not_false, itemLv_int, itemLv_str, itemLv_list, itemLv_bool, itemLv_none, lvOf_strs, lvOf_ints, ne_eq, not_false_eq_true, not_true_eq_false, s_squared_2, hpo, pyP, itF_map _ _ _ hPl, hc]
  simp only [getV_s, getV_z, bindR_ok, bindR_exc, bindE_ok, bindE_exc, bindO_next, bindO_ret, bindO_exc, bindO_raise, bindO_brk, bindO_cont, setV_int, setV_str, setV_bool, setV_none, setV_list2, List.set_cons_succ, List.set_cons_zero, truthD_bool, Option.map_some, if_true, if_false, Bool.false_eq_true, retV_z, retV_s, addF_int, subF_int, ltF_int, leF_int, gtF_int, geF_int, eqF_int, neF_int, eqF_str, neF_str, andF_true, andF_false, orF_true, orF_false, isiF_list, isiF_str, isiF_int, isiF_bool, modF_lit, divF_lit, negF_int, notF_bool, asIntR_int, intF_bool, maxF_two, isF_int_none, isF_none_none, isF_list_none, itemF_tup0, itemF_tup1, methF_str, Nat.reduceLT, decide_true, decide_false, beq_self_eq_true, Bool.not_true, Bool.not_false, itemLv_int, itemLv_str, itemLv_list, itemLv_bool, itemLv_none, lvOf_strs, lvOf_ints, ne_eq, not_false_eq_true, not_true_eq_false, s_squared_3, hj]
  rfl
theorem refusal_ok (t : List Nat) (w : Int) (x : Str) (c : Int) (hx : (excNames.contains x && subX x "WrapError") = true) (hk : F__law_kind [.exc x] = some (.ok (.int c, 2))) (hs : F_squared [.str t, .int w] = some (.exc x)) : F__law_refusal [.str t, .int w] = some (.ok (.int c, 2)) := by
  have hg : argG 1 [.str t, .int w] = [some (.str t, 2), some (.int w, 2), none] := rfl
  unfold F__law_refusal
  rw [fnF_of (by rfl), hg]
  unfold f__law_refusal s__law_refusal_1 tryF
  simp only [getV_s, getV_z, bindR_ok, bindR_exc, bindE_ok, bindE_exc, bindO_next, bindO_ret, bindO_exc, bindO_raise, bindO_brk, bindO_cont, setV_int, setV_str, setV_bool, setV_none, setV_list2, List.set_cons_succ, List.set_cons_zero, truthD_bool, Option.map_some, if_true, if_false, Bool.false_eq_true, retV_z, retV_s, addF_int, subF_int, ltF_int, leF_int, gtF_int, geF_int, eqF_int, neF_int, eqF_str, neF_str, andF_true, andF_false, orF_true, orF_false, isiF_list, isiF_str, isiF_int, isiF_bool, modF_lit, divF_lit, negF_int, notF_bool, asIntR_int, intF_bool, maxF_two, isF_int_none, isF_none_none, isF_list_none, itemF_tup0, itemF_tup1, methF_str, Nat.reduceLT, decide_true, decide_false, beq_self_eq_true, Bool.not_true, Bool.not_false, itemLv_int, itemLv_str, itemLv_list, itemLv_bool, itemLv_none, lvOf_strs, lvOf_ints, ne_eq, not_false_eq_true, not_true_eq_false, hs, hx, hk]
  rfl
theorem wbody (PD : D) (p : Para) (w : Int) (acc : List (List Nat)) (z4 z5 z6 : Option (D × Nat)) (hacc : acc.length ≤ 1000000) (h1 : 1 ≤ w) (hpne : p ≠ []) (hs : (p.map List.length).sum + p.length ≤ 90000) (hwb : w.natAbs ≤ 1000000000000000000000000000000000000) (hb : ∀ x ∈ p, (x.length : Int) ≤ w) :
    ∃ y4 y5 y6, b__law_squared_1 [some (PD, 0), some (.int w, 2), some (.list (acc.map .str), 2), some (.list (p.map .str), 0), z4, z5, z6] = some (.next [some (PD, 0), some (.int w, 2), some (.list ((acc ++ [sqB w p]).map .str), 2), some (.list (p.map .str), 0), y4, y5, y6]) := by
  obtain ⟨b1, _⟩ := block_ok p w h1 hs hwb hb
  have b3 := sq_join p w h1 hs hb
  have hv := best_VS hb
  have hcf := fun l hl => cut_facts h1 hs hb (l := l) hl
  generalize hfs : best p w = fs at b1 b3 hv hcf
  have hne : fs ≠ [] := by
    rcases hv.2 with ⟨e, _⟩ | ⟨e, _⟩
    · exact absurd (List.length_eq_zero_iff.mp e) hpne
    · exact e
  have hpos := List.length_pos_iff.mpr hne
  have hfl : (nz fs).length ≤ 1000000 := by rw [nz_len]; have := hv.1; omega
  have hfm : (nz fs).length ≤ lim := by unfold lim; omega
  have hfb : (nz fs).length ≤ big := by unfold big; omega
  have hpl : p.length ≤ lim := by unfold lim; omega
  have hpb : p.length ≤ big := by unfold big; omega
  have hcp := listCF_list (p.map D.str) (by rw [List.length_map]; exact hpl)
  have hla := law_are_starts_ok p w (nz fs) (by omega) (by omega) hfl hv.valid
  have hel : (endsS (nz fs) p.length).length ≤ big := by rw [endsS_len]; unfold big; omega
  have had := addF_ints1 (sliceL (nz fs) (some 1) none) (p.length : Int) (by have := sliceL_len (nz fs) (some 1) none; unfold lim; omega)
  have hsub : ((nz fs).length : Int) - 1 = ((fs.length - 1 : Nat) : Int) := by rw [nz_len]; omega
  have hr := rngF_nat (fs.length - 1) (by rw [nz_len] at hfm; omega)
  have hmr : (List.range (fs.length - 1)).map (fun k => (p.drop (fs.getD k 0)).take (nx fs p.length k - fs.getD k 0)) = (cutL p fs).dropLast := (range_dropLast _ _).symm
  have hc := compF_src (fE := e__law_squared_1) (cap := [1, 3, 4, 5]) (Γ := [some (PD, 0), some (.int w, 2), some (.list (acc.map .str), 2), some (.list (p.map .str), 0), some (.list ((nz fs).map .int), 2), some (.list ((endsS (nz fs) p.length).map .int), 2), z6]) (fun (k : Nat) => D.int (k : Int)) (fun k => .str (spreadT ((p.drop (fs.getD k 0)).take (nx fs p.length k - fs.getD k 0)) w.toNat)) (List.range (fs.length - 1)) (by
    intro k hk
    obtain ⟨f1, f2, f3, f4, f5, f6, f7, f8⟩ := hcf _ (by rw [← hmr]; exact List.mem_map_of_mem hk)
    have hk := List.mem_range.mp hk
    have i1 := itemF_at D.int (nz fs) k _ (getD_some 0 (by rw [nz_len]; omega)) hfb
    have i2 := itemF_at D.int (endsS (nz fs) p.length) k _ (getD_some 0 (by rw [endsS_len, nz_len]; omega)) hel
    have hsl : sliceL p (some ((nz fs).getD k 0)) (some ((endsS (nz fs) p.length).getD k 0)) = (p.drop (fs.getD k 0)).take (nx fs p.length k - fs.getD k 0) := by
      rw [nz_getD, ends_same, nz_ends (by omega), sliceL_mid]
    have hsp := law_spread_ok _ w.toNat f2 f3 f5 (by omega) f7
    rw [← f4] at hsp
    exact ⟨2, by simp only [getV_s, getV_z, bindR_ok, bindR_exc, bindE_ok, bindE_exc, bindO_next, bindO_ret, bindO_exc, bindO_raise, bindO_brk, bindO_cont, setV_int, setV_str, setV_bool, setV_none, setV_list2, List.set_cons_succ, List.set_cons_zero, truthD_bool, Option.map_some, if_true, if_false, Bool.false_eq_true, retV_z, retV_s, addF_int, subF_int, ltF_int, leF_int, gtF_int, geF_int, eqF_int, neF_int, eqF_str, neF_str, andF_true, andF_false, orF_true, orF_false, isiF_list, isiF_str, isiF_int, isiF_bool, modF_lit, divF_lit, negF_int, notF_bool, asIntR_int, intF_bool, maxF_two, isF_int_none, isF_none_none, isF_list_none, itemF_tup0, itemF_tup1, methF_str, Nat.reduceLT, decide_true, decide_false, beq_self_eq_true, Bool.not_true, Bool.not_false, itemLv_int, itemLv_str, itemLv_list, itemLv_bool, itemLv_none, lvOf_strs, lvOf_ints, ne_eq, not_false_eq_true, not_true_eq_false, e__law_squared_1, compG, List.map_cons, List.map_nil, List.getElem?_cons_zero, List.getElem?_cons_succ, Option.join_some, i1, i2, sliceF_strs _ _ _ hpl, hsl, hsp]⟩)
  have hm : (List.range (fs.length - 1)).map (fun k => D.str (spreadT ((p.drop (fs.getD k 0)).take (nx fs p.length k - fs.getD k 0)) w.toNat)) = ((cutL p fs).dropLast.map fun l => spreadT l w.toNat).map .str := by
    rw [← hmr, List.map_map, List.map_map]; rfl
  rw [hm, lvOf_strs] at hc
  have hlast : (nz fs).getLast? = some ((fs.getD (fs.length - 1) 0 : Nat) : Int) := by
    rw [List.getLast?_eq_getElem?, nz_len, ← nz_getD]
    exact getD_some 0 (by rw [nz_len]; omega)
  have hil : itemF [.list ((nz fs).map .int), .int (-1)] = some (.ok (.int ((fs.getD (fs.length - 1) 0 : Nat) : Int), 0)) := itemF_last _ _ (by rw [List.getLast?_map, hlast]; rfl) (by rw [List.length_map]; exact hfb)
  have hjl := joinF_strs [32] (p.drop (fs.getD (fs.length - 1) 0)) (by rw [← sliceL_from]; exact slice_totalS _ _ (by omega) (by omega))
  have hsq : ((cutL p fs).dropLast.map fun l => spreadT l w.toNat) ++ [joinN [32] (p.drop (fs.getD (fs.length - 1) 0))] = sqL w p fs := by
    unfold sqL; rw [cut_last hv hne]; rfl
  have app1 := appF_flat (occ := [3]) (i := 6) (f := a__law_squared_1) (Γ := [some (PD, 0), some (.int w, 2), some (.list (acc.map .str), 2), some (.list (p.map .str), 0), some (.list ((nz fs).map .int), 2), some (.list ((endsS (nz fs) p.length).map .int), 2), some (.list (((cutL p fs).dropLast.map fun l => spreadT l w.toNat).map .str), 2)]) (xs := ((cutL p fs).dropLast.map fun l => spreadT l w.toNat).map .str) (lv := 2) (d := .str (joinN [32] (p.drop (fs.getD (fs.length - 1) 0)))) (lv' := 2) rfl (by decide)
    (by rw [List.length_map, List.length_map, List.length_dropLast, cut_len]; rw [nz_len] at hfm; omega)
    (by simp only [getV_s, getV_z, bindR_ok, bindR_exc, bindE_ok, bindE_exc, bindO_next, bindO_ret, bindO_exc, bindO_raise, bindO_brk, bindO_cont, setV_int, setV_str, setV_bool, setV_none, setV_list2, List.set_cons_succ, List.set_cons_zero, truthD_bool, Option.map_some, if_true, if_false, Bool.false_eq_true, retV_z, retV_s, addF_int, subF_int, ltF_int, leF_int, gtF_int, geF_int, eqF_int, neF_int, eqF_str, neF_str, andF_true, andF_false, orF_true, orF_false, isiF_list, isiF_str, isiF_int, isiF_bool, modF_lit, divF_lit, negF_int, notF_bool, asIntR_int, intF_bool, maxF_two, isF_int_none, isF_none_none, isF_list_none, itemF_tup0, itemF_tup1, methF_str, Nat.reduceLT, decide_true, decide_false, beq_self_eq_true, Bool.not_true, Bool.not_false, itemLv_int, itemLv_str, itemLv_list, itemLv_bool, itemLv_none, lvOf_strs, lvOf_ints, ne_eq, not_false_eq_true, not_true_eq_false, a__law_squared_1, hil, sliceF_strs _ _ _ hpl, sliceL_from, hjl]) rfl
  rw [show ((cutL p fs).dropLast.map fun l => spreadT l w.toNat).map D.str ++ [D.str (joinN [32] (p.drop (fs.getD (fs.length - 1) 0)))] = (sqL w p fs).map .str by rw [← hsq]; simp] at app1
  have app2 := appF_flat (occ := [6]) (i := 2) (f := a__law_squared_2) (Γ := [some (PD, 0), some (.int w, 2), some (.list (acc.map .str), 2), some (.list (p.map .str), 0), some (.list ((nz fs).map .int), 2), some (.list ((endsS (nz fs) p.length).map .int), 2), some (.list ((sqL w p fs).map .str), 2)]) (xs := acc.map .str) (lv := 2) (d := .str (sqB w p)) (lv' := 2) rfl (by decide) (by rw [List.length_map]; unfold lim; omega)
    (by simp only [getV_s, getV_z, bindR_ok, bindR_exc, bindE_ok, bindE_exc, bindO_next, bindO_ret, bindO_exc, bindO_raise, bindO_brk, bindO_cont, setV_int, setV_str, setV_bool, setV_none, setV_list2, List.set_cons_succ, List.set_cons_zero, truthD_bool, Option.map_some, if_true, if_false, Bool.false_eq_true, retV_z, retV_s, addF_int, subF_int, ltF_int, leF_int, gtF_int, geF_int, eqF_int, neF_int, eqF_str, neF_str, andF_true, andF_false, orF_true, orF_false, isiF_list, isiF_str, isiF_int, isiF_bool, modF_lit, divF_lit, negF_int, notF_bool, asIntR_int, intF_bool, maxF_two, isF_int_none, isF_none_none, isF_list_none, itemF_tup0, itemF_tup1, methF_str, Nat.reduceLT, decide_true, decide_false, beq_self_eq_true, Bool.not_true, Bool.not_false, itemLv_int, itemLv_str, itemLv_list, itemLv_bool, itemLv_none, lvOf_strs, lvOf_ints, ne_eq, not_false_eq_true, not_true_eq_false, a__law_squared_2, b3]) rfl
  have hacc' : acc.map D.str ++ [D.str (sqB w p)] = (acc ++ [sqB w p]).map .str := by simp
  rw [hacc'] at app2
  refine ⟨some (.list ((nz fs).map .int), 2), some (.list ((endsS (nz fs) p.length).map .int), 2), some (.list ((sqL w p fs).map .str), 2), ?_⟩
  unfold b__law_squared_1
  simp only [getV_s, getV_z, bindR_ok, bindR_exc, bindE_ok, bindE_exc, bindO_next, bindO_ret, bindO_exc, bindO_raise, bindO_brk, bindO_cont, setV_int, setV_str, setV_bool, setV_none, setV_list2, List.set_cons_succ, List.set_cons_zero, truthD_bool, Option.map_some, if_true, if_false, Bool.false_eq_true, retV_z, retV_s, addF_int, subF_int, ltF_int, leF_int, gtF_int, geF_int, eqF_int, neF_int, eqF_str, neF_str, andF_true, andF_false, orF_true, orF_false, isiF_list, isiF_str, isiF_int, isiF_bool, modF_lit, divF_lit, negF_int, notF_bool, asIntR_int, intF_bool, maxF_two, isF_int_none, isF_none_none, isF_list_none, itemF_tup0, itemF_tup1, methF_str, Nat.reduceLT, decide_true, decide_false, beq_self_eq_true, Bool.not_true, Bool.not_false, itemLv_int, itemLv_str, itemLv_list, itemLv_bool, itemLv_none, lvOf_strs, lvOf_ints, ne_eq, not_false_eq_true, not_true_eq_false, hcp, b1, hla, sliceF_ints _ _ _ hfm, lenF_map _ _ hpb, listF_int, had]
  rw [show sliceL (nz fs) (some 1) none ++ [(p.length : Int)] = endsS (nz fs) p.length from rfl]
  simp only [getV_s, getV_z, bindR_ok, bindR_exc, bindE_ok, bindE_exc, bindO_next, bindO_ret, bindO_exc, bindO_raise, bindO_brk, bindO_cont, setV_int, setV_str, setV_bool, setV_none, setV_list2, List.set_cons_succ, List.set_cons_zero, truthD_bool, Option.map_some, if_true, if_false, Bool.false_eq_true, retV_z, retV_s, addF_int, subF_int, ltF_int, leF_int, gtF_int, geF_int, eqF_int, neF_int, eqF_str, neF_str, andF_true, andF_false, orF_true, orF_false, isiF_list, isiF_str, isiF_int, isiF_bool, modF_lit, divF_lit, negF_int, notF_bool, asIntR_int, intF_bool, maxF_two, isF_int_none, isF_none_none, isF_list_none, itemF_tup0, itemF_tup1, methF_str, Nat.reduceLT, decide_true, decide_false, beq_self_eq_true, Bool.not_true, Bool.not_false, itemLv_int, itemLv_str, itemLv_list, itemLv_bool, itemLv_none, lvOf_strs, lvOf_ints, ne_eq, not_false_eq_true, not_true_eq_false, lenF_map _ _ hfb, hsub, hr, hc]
  rw [app1]
  simp only [getV_s, getV_z, bindR_ok, bindR_exc, bindE_ok, bindE_exc, bindO_next, bindO_ret, bindO_exc, bindO_raise, bindO_brk, bindO_cont, setV_int, setV_str, setV_bool, setV_none, setV_list2, List.set_cons_succ, List.set_cons_zero, truthD_bool, Option.map_some, if_true, if_false, Bool.false_eq_true, retV_z, retV_s, addF_int, subF_int, ltF_int, leF_int, gtF_int, geF_int, eqF_int, neF_int, eqF_str, neF_str, andF_true, andF_false, orF_true, orF_false, isiF_list, isiF_str, isiF_int, isiF_bool, modF_lit, divF_lit, negF_int, notF_bool, asIntR_int, intF_bool, maxF_two, isF_int_none, isF_none_none, isF_list_none, itemF_tup0, itemF_tup1, methF_str, Nat.reduceLT, decide_true, decide_false, beq_self_eq_true, Bool.not_true, Bool.not_false, itemLv_int, itemLv_str, itemLv_list, itemLv_bool, itemLv_none, lvOf_strs, lvOf_ints, ne_eq, not_false_eq_true, not_true_eq_false, List.set_cons_succ]
  rw [app2]
  rfl
theorem law_squared_ok (P : List Para) (w : Int) (hgood : goodP P) (hs : (P.flatten.map List.length).sum + P.flatten.length ≤ 90000) (h1 : 1 ≤ w) (hwb : w.natAbs ≤ 1000000000000000000000000000000000000) (hb : ∀ x ∈ P.flatten, (x.length : Int) ≤ w) :
    F__law_squared [.list (P.map paraD), .int w] = some (.ok (.str (sqT w P), 2)) := by
  have hg : argG 5 [.list (P.map paraD), .int w] = [some (.list (P.map paraD), 0), some (.int w, 2), none, none, none, none, none] := rfl
  have hcount := paras_count hgood
  have hPl : P.length ≤ lim := by unfold lim; omega
  have hsum := sqBs_sum (by omega) hb
  have hj := joinF_strs [10, 10] (P.map (sqB w)) (by unfold totalN lim; simp only [List.length_cons, List.length_nil, List.length_map] at hsum ⊢; omega)
  obtain ⟨Γ', e, v, z4, z5, z6, rfl⟩ := loopF_inv (α := Unit) (fB := b__law_squared_1) (ix := 3) (fun k Γ => ∃ (v z4 z5 z6 : Option (D × Nat)), Γ = [some (.list (P.map paraD), 0), some (.int w, 2), some (.list (((P.take k).map (sqB w)).map .str), 2), v, z4, z5, z6]) (P.map paraD) 0 [some (.list (P.map paraD), 0), some (.int w, 2), some (.list [], 2), none, none, none, none] ⟨none, none, none, none, rfl⟩ (by
    rintro i Γ x hx ⟨v, z4, z5, z6, rfl⟩
    obtain ⟨p, hp0, rfl⟩ : ∃ p, P[i]? = some p ∧ x = paraD p := by
      rw [List.getElem?_map] at hx
      cases hq : P[i]? with
      | none => rw [hq] at hx; cases hx
      | some c => rw [hq] at hx; exact ⟨c, rfl, (Option.some.inj hx).symm⟩
    have hp := List.mem_of_getElem? hp0
    have s1 := sum_sub (para_sub hp)
    have s2 := (para_sub hp).length_le
    obtain ⟨y4, y5, y6, e⟩ := wbody (.list (P.map paraD)) p w ((P.take i).map (sqB w)) z4 z5 z6 (by rw [List.length_map, List.length_take]; omega) h1 (hgood p hp).1 (by omega) hwb fun x hx => hb x (List.mem_flatten.mpr ⟨p, hp, hx⟩)
    refine ⟨_, ?_, some (.list (p.map .str), 0), y4, y5, y6, rfl⟩
    rw [Nat.zero_add, List.take_add_one, hp0, Option.toList_some, List.map_append]
    exact e)
  rw [Nat.zero_add, List.length_map, List.take_length] at e
  have e2 : s__law_squared_2 [some (.list (P.map paraD), 0), some (.int w, 2), some (.list [], 2), none, none, none, none] = some (.next [some (.list (P.map paraD), 0), some (.int w, 2), some (.list ((P.map (sqB w)).map .str), 2), v, z4, z5, z6]) := by
    unfold s__law_squared_2
    rw [forF_of (by simp only [getV_s, getV_z, bindR_ok, bindR_exc, bindE_ok, bindE_exc, bindO_next, bindO_ret, bindO_exc, bindO_raise, bindO_brk, bindO_cont, setV_int, setV_str, setV_bool, setV_none, setV_list2, List.set_cons_succ, List.set_cons_zero, truthD_bool, Option.map_some, if_true, if_false, Bool.false_eq_true, retV_z, retV_s, addF_int, subF_int, ltF_int, leF_int, gtF_int, geF_int, eqF_int, neF_int, eqF_str, neF_str, andF_true, andF_false, orF_true, orF_false, isiF_list, isiF_str, isiF_int, isiF_bool, modF_lit, divF_lit, negF_int, notF_bool, asIntR_int, intF_bool, maxF_two, isF_int_none, isF_none_none, isF_list_none, itemF_tup0, itemF_tup1, methF_str, Nat.reduceLT, decide_true, decide_false, beq_self_eq_true, Bool.not_true, Bool.not_false, itemLv_int, itemLv_str, itemLv_list, itemLv_bool, itemLv_none, lvOf_strs, lvOf_ints, ne_eq, not_false_eq_true, not_true_eq_false, itF_map _ _ _ hPl]; rfl)]
    exact e
  unfold F__law_squared
  rw [fnF_of (by rfl), hg]
  unfold f__law_squared
  simp only [getV_s, getV_z, bindR_ok, bindR_exc, bindE_ok, bindE_exc, bindO_next, bindO_ret, bindO_exc, bindO_raise, bindO_brk, bindO_cont, setV_int, setV_str, setV_bool, setV_none, setV_list2, List.set_cons_succ, List.set_cons_zero, truthD_bool, Option.map_some, if_true, if_false, Bool.false_eq_true, retV_z, retV_s, addF_int, subF_int, ltF_int, leF_int, gtF_int, geF_int, eqF_int, neF_int, eqF_str, neF_str, andF_true, andF_false, orF_true, orF_false, isiF_list, isiF_str, isiF_int, isiF_bool, modF_lit, divF_lit, negF_int, notF_bool, asIntR_int, intF_bool, maxF_two, isF_int_none, isF_none_none, isF_list_none, itemF_tup0, itemF_tup1, methF_str, Nat.reduceLT, decide_true, decide_false, beq_self_eq_true, Bool.not_true, Bool.not_false, itemLv_int, itemLv_str, itemLv_list, itemLv_bool, itemLv_none, lvOf_strs, lvOf_ints, ne_eq, not_false_eq_true, not_true_eq_false, s__law_squared_1, listF_nil]
  rw [e2]
  simp only [getV_s, getV_z, bindR_ok, bindR_exc, bindE_ok, bindE_exc, bindO_next, bindO_ret, bindO_exc, bindO_raise, bindO_brk, bindO_cont, setV_int, setV_str, setV_bool, setV_none, setV_list2, List.set_cons_succ, List.set_cons_zero, truthD_bool, Option.map_some, if_true, if_false, Bool.false_eq_true, retV_z, retV_s, addF_int, subF_int, ltF_int, leF_int, gtF_int, geF_int, eqF_int, neF_int, eqF_str, neF_str, andF_true, andF_false, orF_true, orF_false, isiF_list, isiF_str, isiF_int, isiF_bool, modF_lit, divF_lit, negF_int, notF_bool, asIntR_int, intF_bool, maxF_two, isF_int_none, isF_none_none, isF_list_none, itemF_tup0, itemF_tup1, methF_str, Nat.reduceLT, decide_true, decide_false, beq_self_eq_true, Bool.not_true, Bool.not_false, itemLv_int, itemLv_str, itemLv_list, itemLv_bool, itemLv_none, lvOf_strs, lvOf_ints, ne_eq, not_false_eq_true, not_true_eq_false, s__law_squared_3, hj]
  rfl
theorem pure_law (ns : List Int) (h : ns.length ≤ 63) : ∃ lv, F_law [.list (ns.map .int)] = some (.ok (.bool true, lv)) := by
  have hg : argG 5 [.list (ns.map D.int)] = [some (.list (ns.map .int), 0), none, none, none, none, none] := rfl
  obtain ⟨t0, t, ht, e1, e2⟩ := text_head ns h [none, none, none, none]
  have hpa := parts_ok t (by omega)
  have hwsum := wordsN_sum t
  have hwg := wordsN_good t
  have hwf := words_flat t
  have hgood := parasN_good t
  have hlow := fun w hw => squared_low t w (by omega) hw
  have hlong := fun w h1 hl hw hb => squared_long t w (by omega) h1 hl hw hb
  rw [hwf] at hwsum hwg hlong
  have hcnt : (parasN t).flatten.length ≤ (((parasN t).flatten).map List.length).sum := by
    have := sum_le_sum (f := fun _ => 1) (g := List.length) (parasN t).flatten fun x hx => by have := List.length_pos_iff.mpr (hwg x hx).1; omega
    rw [List.map_const', List.sum_replicate_nat, Nat.mul_one] at this
    exact this
  have hok := fun w => squared_ok t (parasN t) w rfl (by omega) (by omega)
  generalize parasN t = P at hpa hwsum hwg hgood hlong hcnt hok
  have hcount := paras_count hgood
  have hPl : P.length ≤ lim := by unfold lim; omega
  have hpe : ∀ p ∈ P, p.length ≤ lim := fun p hp => by have := (para_sub hp).length_le; unfold lim; omega
  have hxb : ∀ x ∈ P.flatten, x.length ≤ big := fun x hx => by have := mem_sum hx; unfold big; omega
  have hL := longest_ok P hPl hpe hxb
  have hm : longest P.flatten ≤ 60000 := by
    have := (longest_le P.flatten 60000 (by decide)).mpr fun x hx => by have := mem_sum hx; omega
    omega
  obtain ⟨w0, w1, w2, w3, w, gw, f4, f5, f6, f7, f8⟩ := width_head ns h (.list (P.map paraD)) _ hm hL (some (.str t, 2)) [none, none]
  refine ⟨2, ?_⟩
  unfold F_law
  rw [fnF_of (by rfl), hg]
  unfold f_law
  rw [e1, bindO_next, e2]
  simp only [getV_s, getV_z, bindR_ok, bindR_exc, bindE_ok, bindE_exc, bindO_next, bindO_ret, bindO_exc, bindO_raise, bindO_brk, bindO_cont, setV_int, setV_str, setV_bool, setV_none, setV_list2, List.set_cons_succ, List.set_cons_zero, truthD_bool, Option.map_some, if_true, if_false, Bool.false_eq_true, retV_z, retV_s, addF_int, subF_int, ltF_int, leF_int, gtF_int, geF_int, eqF_int, neF_int, eqF_str, neF_str, andF_true, andF_false, orF_true, orF_false, isiF_list, isiF_str, isiF_int, isiF_bool, modF_lit, divF_lit, negF_int, notF_bool, asIntR_int, intF_bool, maxF_two, isF_int_none, isF_none_none, isF_list_none, itemF_tup0, itemF_tup1, methF_str, Nat.reduceLT, decide_true, decide_false, beq_self_eq_true, Bool.not_true, Bool.not_false, itemLv_int, itemLv_str, itemLv_list, itemLv_bool, itemLv_none, lvOf_strs, lvOf_ints, ne_eq, not_false_eq_true, not_true_eq_false, s_law_3, hpa, pyP]
  rw [f4, bindO_next, f5, bindO_next, f6, bindO_next, f7, bindO_next, f8, bindO_next]
  by_cases hw1 : w < 1
  · have hge : ¬ (1 : Int) ≤ w := by omega
    simp only [getV_s, getV_z, bindR_ok, bindR_exc, bindE_ok, bindE_exc, bindO_next, bindO_ret, bindO_exc, bindO_raise, bindO_brk, bindO_cont, setV_int, setV_str, setV_bool, setV_none, setV_list2, List.set_cons_succ, List.set_cons_zero, truthD_bool, Option.map_some, if_true, if_false, Bool.false_eq_true, retV_z, retV_s, addF_int, subF_int, ltF_int, leF_int, gtF_int, geF_int, eqF_int, neF_int, eqF_str, neF_str, andF_true, andF_false, orF_true, orF_false, isiF_list, isiF_str, isiF_int, isiF_bool, modF_lit, divF_lit, negF_int, notF_bool, asIntR_int, intF_bool, maxF_two, isF_int_none, isF_none_none, isF_list_none, itemF_tup0, itemF_tup1, methF_str, Nat.reduceLT, decide_true, decide_false, beq_self_eq_true, Bool.not_true, Bool.not_false, itemLv_int, itemLv_str, itemLv_list, itemLv_bool, itemLv_none, lvOf_strs, lvOf_ints, ne_eq, not_false_eq_true, not_true_eq_false, s_law_9, hw1, refusal_ok t w _ _ (by decide) kind11 (hlow w hw1), hge, Int.add_zero]
    rfl
  have hge : (1 : Int) ≤ w := by omega
  by_cases hbig : w < (longest P.flatten : Int)
  · have hbad : ¬ ∀ x ∈ P.flatten, (x.length : Int) ≤ w := fun hh => by
      have := (longest_le P.flatten w (by omega)).mpr hh; omega
    have hadd : (11 : Int) + 1 = 12 := rfl
    simp only [getV_s, getV_z, bindR_ok, bindR_exc, bindE_ok, bindE_exc, bindO_next, bindO_ret, bindO_exc, bindO_raise, bindO_brk, bindO_cont, setV_int, setV_str, setV_bool, setV_none, setV_list2, List.set_cons_succ, List.set_cons_zero, truthD_bool, Option.map_some, if_true, if_false, Bool.false_eq_true, retV_z, retV_s, addF_int, subF_int, ltF_int, leF_int, gtF_int, geF_int, eqF_int, neF_int, eqF_str, neF_str, andF_true, andF_false, orF_true, orF_false, isiF_list, isiF_str, isiF_int, isiF_bool, modF_lit, divF_lit, negF_int, notF_bool, asIntR_int, intF_bool, maxF_two, isF_int_none, isF_none_none, isF_list_none, itemF_tup0, itemF_tup1, methF_str, Nat.reduceLT, decide_true, decide_false, beq_self_eq_true, Bool.not_true, Bool.not_false, itemLv_int, itemLv_str, itemLv_list, itemLv_bool, itemLv_none, lvOf_strs, lvOf_ints, ne_eq, not_false_eq_true, not_true_eq_false, s_law_9, hw1, hL, hbig, refusal_ok t w _ _ (by decide) kind12 (hlong w hge (by unfold lim; omega) hxb hbad), hge, hadd]
    rfl
  have hfit : ∀ x ∈ P.flatten, (x.length : Int) ≤ w := (longest_le P.flatten w (by omega)).mp (by omega)
  have hwa := gw.le
  simp only [getV_s, getV_z, bindR_ok, bindR_exc, bindE_ok, bindE_exc, bindO_next, bindO_ret, bindO_exc, bindO_raise, bindO_brk, bindO_cont, setV_int, setV_str, setV_bool, setV_none, setV_list2, List.set_cons_succ, List.set_cons_zero, truthD_bool, Option.map_some, if_true, if_false, Bool.false_eq_true, retV_z, retV_s, addF_int, subF_int, ltF_int, leF_int, gtF_int, geF_int, eqF_int, neF_int, eqF_str, neF_str, andF_true, andF_false, orF_true, orF_false, isiF_list, isiF_str, isiF_int, isiF_bool, modF_lit, divF_lit, negF_int, notF_bool, asIntR_int, intF_bool, maxF_two, isF_int_none, isF_none_none, isF_list_none, itemF_tup0, itemF_tup1, methF_str, Nat.reduceLT, decide_true, decide_false, beq_self_eq_true, Bool.not_true, Bool.not_false, itemLv_int, itemLv_str, itemLv_list, itemLv_bool, itemLv_none, lvOf_strs, lvOf_ints, ne_eq, not_false_eq_true, not_true_eq_false, s_law_9, hw1, hL, hbig]
  simp only [getV_s, getV_z, bindR_ok, bindR_exc, bindE_ok, bindE_exc, bindO_next, bindO_ret, bindO_exc, bindO_raise, bindO_brk, bindO_cont, setV_int, setV_str, setV_bool, setV_none, setV_list2, List.set_cons_succ, List.set_cons_zero, truthD_bool, Option.map_some, if_true, if_false, Bool.false_eq_true, retV_z, retV_s, addF_int, subF_int, ltF_int, leF_int, gtF_int, geF_int, eqF_int, neF_int, eqF_str, neF_str, andF_true, andF_false, orF_true, orF_false, isiF_list, isiF_str, isiF_int, isiF_bool, modF_lit, divF_lit, negF_int, notF_bool, asIntR_int, intF_bool, maxF_two, isF_int_none, isF_none_none, isF_list_none, itemF_tup0, itemF_tup1, methF_str, Nat.reduceLT, decide_true, decide_false, beq_self_eq_true, Bool.not_true, Bool.not_false, itemLv_int, itemLv_str, itemLv_list, itemLv_bool, itemLv_none, lvOf_strs, lvOf_ints, ne_eq, not_false_eq_true, not_true_eq_false, s_law_10, law_squared_ok P w hgood (by omega) hge hwa hfit]
  simp only [getV_s, getV_z, bindR_ok, bindR_exc, bindE_ok, bindE_exc, bindO_next, bindO_ret, bindO_exc, bindO_raise, bindO_brk, bindO_cont, setV_int, setV_str, setV_bool, setV_none, setV_list2, List.set_cons_succ, List.set_cons_zero, truthD_bool, Option.map_some, if_true, if_false, Bool.false_eq_true, retV_z, retV_s, addF_int, subF_int, ltF_int, leF_int, gtF_int, geF_int, eqF_int, neF_int, eqF_str, neF_str, andF_true, andF_false, orF_true, orF_false, isiF_list, isiF_str, isiF_int, isiF_bool, modF_lit, divF_lit, negF_int, notF_bool, asIntR_int, intF_bool, maxF_two, isF_int_none, isF_none_none, isF_list_none, itemF_tup0, itemF_tup1, methF_str, Nat.reduceLT, decide_true, decide_false, beq_self_eq_true, Bool.not_true, Bool.not_false, itemLv_int, itemLv_str, itemLv_list, itemLv_bool, itemLv_none, lvOf_strs, lvOf_ints, ne_eq, not_false_eq_true, not_true_eq_false, s_law_11, hok w hge hwa hfit]
  have hns : isnF [.str (sqT w P), .none] = some (.ok (.bool true, 2)) := rfl
  simp only [getV_s, getV_z, bindR_ok, bindR_exc, bindE_ok, bindE_exc, bindO_next, bindO_ret, bindO_exc, bindO_raise, bindO_brk, bindO_cont, setV_int, setV_str, setV_bool, setV_none, setV_list2, List.set_cons_succ, List.set_cons_zero, truthD_bool, Option.map_some, if_true, if_false, Bool.false_eq_true, retV_z, retV_s, addF_int, subF_int, ltF_int, leF_int, gtF_int, geF_int, eqF_int, neF_int, eqF_str, neF_str, andF_true, andF_false, orF_true, orF_false, isiF_list, isiF_str, isiF_int, isiF_bool, modF_lit, divF_lit, negF_int, notF_bool, asIntR_int, intF_bool, maxF_two, isF_int_none, isF_none_none, isF_list_none, itemF_tup0, itemF_tup1, methF_str, Nat.reduceLT, decide_true, decide_false, beq_self_eq_true, Bool.not_true, Bool.not_false, itemLv_int, itemLv_str, itemLv_list, itemLv_bool, itemLv_none, lvOf_strs, lvOf_ints, ne_eq, not_false_eq_true, not_true_eq_false, s_law_12, hns]
  rfl

end Mine.L13
namespace Mine
open PySem PySem.Calls PySem.W PyProof.Rows
set_option maxRecDepth 100000
set_option maxHeartbeats 8000000
end Mine
open PySem PySem.W PyProof.Rows Mine
set_option maxRecDepth 100000 in
set_option maxHeartbeats 8000000 in
theorem PySem.Challenge.cw_uf040006_13_holds : PySem.Challenge.rw_uf040006_13.Holds := by
  w_on
  refine holds_law (l := PySem.Challenge.rw_uf040006_13) (by kernel_rfl) fun said => ?_
  refine holds_open (q := q_13) (loose := []) (Xt := (fun s => xlAt q_13 [] s && recOk (RowW.records (OpenRow.toRowW PySem.Challenge.rw_uf040006_13.row)) s)) (XP := XL q_13 []) (Yf := Hook.obs (xHook q_13)) (Ya := Hook.val (xHook q_13)) (YP := Hook.says (xHook q_13)) (N := 9000) left_13 (Hook.of (xHook q_13)) (Hook.keeps (xHook q_13)) (fun s e => xl_of s (Bool.and_eq_true_iff.mp e).1) XL.keeps (by rfl) (by rfl) (by rfl) (fun s e => recFacts_of (Bool.and_eq_true_iff.mp e).2) (by rfl) (by first | assumption | decide +kernel) (by decide +kernel) ⟨rfl, rfl, rfl, rfl, rfl, by decide +kernel⟩ ?hw ?hc
  case hw => w_witness2
  intro w s₀ s₁ mg mb G Y fa o pm cd doc dV kV ho hdd hcd hD hmg hg args vals as hpre hlay hrd hwl hlo
  obtain ⟨K, KX, hK⟩ := Y
  refine Ground.open G ?_
  intro T B D TE TW
  clear hdd hcd hD ho B D TE TW
  wrow_args hpre hlay hrd hwl hlo
  rename IntsAre _ _ => hI
  rename Heap.IsList _ _ _ => hL
  rename (¬ ((63 : Int) < _)) => hlen
  have ok := cx_ok (prog := PySem.Challenge.rw_uf040006_13.row.prog) (w := w) T
  have Bb := bi_of (prog := PySem.Challenge.rw_uf040006_13.row.prog) (w := w) T (by kernel_rfl)
  have R : ∀ j d, (recsOf _)[j]? = some d → FnRec (cxOf PySem.Challenge.rw_uf040006_13.row.prog w s₁ mg mb) d := fun j d e => T.fn d (List.mem_of_getElem? e)
  have X := xs_of (prog := PySem.Challenge.rw_uf040006_13.row.prog) (w := w) T KX hK (by kernel_rfl)
  have h_need_width := L13.fn_need_width ok Bb X  (R 0 _ (by kernel_rfl))
  have h_size_of := L13.fn_size_of ok Bb  (R 1 _ (by kernel_rfl))
  have h_long_word := L13.fn_long_word ok Bb h_need_width.mono (R 2 _ (by kernel_rfl))
  have h_are_starts := L13.fn_are_starts ok Bb  (R 3 _ (by kernel_rfl))
  have h_need_starts := L13.fn_need_starts ok Bb X h_are_starts.mono (R 4 _ (by kernel_rfl))
  have h_need_words := L13.fn_need_words ok Bb X h_long_word.mono (R 5 _ (by kernel_rfl))
  have h_bounds_of := L13.fn_bounds_of ok Bb  (R 6 _ (by kernel_rfl))
  have h_lines_of := L13.fn_lines_of ok Bb h_bounds_of.mono h_need_starts.mono (R 7 _ (by kernel_rfl))
  have h_sums_from := L13.fn_sums_from ok Bb  (R 8 _ (by kernel_rfl))
  have h_table_of := L13.fn_table_of ok Bb h_need_words.mono h_sums_from.mono (R 9 _ (by kernel_rfl))
  have h_best_starts := L13.fn_best_starts ok Bb h_sums_from.mono h_table_of.mono (R 10 _ (by kernel_rfl))
  have h_words_of := L13.fn_words_of ok Bb  (R 11 _ (by kernel_rfl))
  have h_paragraphs_of := L13.fn_paragraphs_of ok Bb h_words_of.mono (R 12 _ (by kernel_rfl))
  have h_spread_line := L13.fn_spread_line ok Bb X h_need_width.mono h_size_of.mono (R 13 _ (by kernel_rfl))
  have h_squared_lines := L13.fn_squared_lines ok Bb h_best_starts.mono h_lines_of.mono h_spread_line.mono h_words_of.mono (R 14 _ (by kernel_rfl))
  have h_squared := L13.fn_squared ok Bb h_need_words.mono h_paragraphs_of.mono h_squared_lines.mono h_words_of.mono (R 15 _ (by kernel_rfl))
  have h__law_cell_at := L13.fn__law_cell_at ok Bb  (R 16 _ (by kernel_rfl))
  have h__law_sign_by := L13.fn__law_sign_by ok Bb  (R 17 _ (by kernel_rfl))
  have h__law_text_by := L13.fn__law_text_by ok Bb h__law_sign_by.mono (R 18 _ (by kernel_rfl))
  have h__law_parts := L13.fn__law_parts ok Bb  (R 19 _ (by kernel_rfl))
  have h__law_whole := L13.fn__law_whole ok Bb  (R 20 _ (by kernel_rfl))
  have h__law_wholes := L13.fn__law_wholes ok Bb h__law_whole.mono (R 21 _ (by kernel_rfl))
  have h__law_size := L13.fn__law_size ok Bb  (R 22 _ (by kernel_rfl))
  have h__law_are_starts := L13.fn__law_are_starts ok Bb h__law_size.mono h__law_wholes.mono (R 23 _ (by kernel_rfl))
  have h__law_spread := L13.fn__law_spread ok Bb  (R 24 _ (by kernel_rfl))
  have h__law_kind := L13.fn__law_kind (hm := false) ok Bb X  (R 25 _ (by kernel_rfl))
  have k__law_kind := L13.fn__law_kind (hm := true) ok Bb X  (R 25 _ (by kernel_rfl))
  have h__law_refusal := L13.fn__law_refusal ok Bb X h_squared.mono k__law_kind.mono (R 26 _ (by kernel_rfl))
  have h__law_longest := L13.fn__law_longest ok Bb  (R 27 _ (by kernel_rfl))
  have h__law_squared := L13.fn__law_squared ok Bb h__law_are_starts.mono h__law_spread.mono h_best_starts.mono (R 28 _ (by kernel_rfl))
  refine law_close PySem.Challenge.rw_uf040006_13 (k := 5) (n := 8) ok hg ?_ (R 29 (recAt PySem.Challenge.pw_uf040006_13 47) (by kernel_rfl)) hmg hL hI (by decide) (L13.den_law ok Bb h__law_cell_at.mono h__law_longest.mono h__law_parts.mono h__law_refusal.mono h__law_squared.mono h__law_text_by.mono h_squared.mono) L13.bind_law (by kernel_rfl) (by kernel_rfl) (L13.pure_law _ (by omega))
  wrow_post
