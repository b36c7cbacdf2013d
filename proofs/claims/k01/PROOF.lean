import PyProof.Rows.All
import Wide.All
import OpenK.AllK
import Wide.FinOn
import HandS.ForMost
import HandS.ForExc
import HandS.Flow
import HandS.TupAny
import HandS.SortInts
import HandS.SortRule
import HandS.SortKw
import HandS.Deep
import HandS.DictTup
import HandS.Conv
import HandS.IsInst
import HandS.Rev
import HandS.RevTup
import HandS.Zip
import HandS.TupLen
import HandS.More
import HandS.TupMul
import HandS.TupLe
import HandS.Lambda
import HandS.EndTab
import HandS.ExcIs
import HandS.TryOnly
import HandS.Strs
import HandS.SetFor
import HandS.HotCalls
import HandS.Wide
import KE.GoesMore
import KE.SortKeyHeap
import KE.KNestM
import HandS.Style
import KE.DataMinMax
import KE.KTryMore
import KE.KDictCopyH
import KE.KDictKeyed
import HandS.HeadHook3
import PyProof.ReprHeadsTuple
import PyProof.StrHeap
import HandS.FStrTup
import HandS.RaiseMore
import PySem.Challenge.RW_waymusts_k01_what_is_a_net
set_option Elab.async false
set_option linter.all false
set_option maxRecDepth 100000
set_option maxHeartbeats 4000000
namespace DL
open PySem PySem.Spec PyProof.Rows L2

/-! ## D0: tuples whose object is known (frozen), rules over the hand layer's heap -/
section
variable {prog : Program} {w : World} {A : Around} {E : Value → Shared → Prop} {s : Shared}
theorem collect_tup {t : Addr} {its : List Value} {Q : List Value → Shared → Prop} (ht : IsTup s.heap t its.toArray) (hz : its.length ≤ sizeLine)
    (h : Q its { s with heap := (s.heap.push (seqObj "list" #[] 0)).update s.heap.objs.size (Obj.mapSeq (· ++ its.toArray)) }) :
    wpAny (model prog w) A (collect (.ref t)) Q E s := by
  obtain ⟨ob, g1, g2, k, g3⟩ := id ht
  unfold collect
  refine wpAny_bind (wpAny_runValue (codeAny_builtin entry_proto_collect' ?_))
  show wpAny _ _ (do
    again (.builtin "list.__iadd__" ⟨[← newList [], .ref t], []⟩)) _ _ s
  refine wpAny_bind (wpAny_newList (wpAny_pure ⟨Code.quiet_builtin _ (by decide +kernel),
    codeAny_builtin entry_list_iadd' ?_⟩))
  show wpAny _ _ (Builtin.List.listExtendWith (.ref s.heap.objs.size) (.ref t)
    (.ref s.heap.objs.size)) _ _ { s with heap := s.heap.push (seqObj "list" #[] 0) }
  unfold Builtin.List.listExtendWith
  have g1' : (s.heap.push (seqObj "list" #[] 0)).get? t = some ob := Heap.get?_push_of_some _ g1
  have new : (s.heap.push (seqObj "list" #[] 0)).get? s.heap.objs.size = some (seqObj "list" #[] 0) := Heap.get?_push_size _ rfl
  refine wpAny_bind (wpAny_typeOf (T := "tuple") ⟨ob, g1', g2⟩ ?_)
  rw [if_pos (by simp)]
  refine wpAny_bind (listItems_at g1' g3 (wpAny_bind (listItems_at (xs := #[]) (n := 0) new rfl ?_)))
  rw [if_neg (by simp)]
  refine wpAny_bind (listUpdate_at (xs := #[]) (n := 0) new rfl ?_ (Nat.zero_le _)
    (by show (#[] ++ its.toArray).size ≤ sizeLine + 1; simp only [Array.size_append, List.size_toArray, List.length_nil]; omega))
  refine wpAny_pure ?_
  show wpAny (model prog w) A (do
      let o ← load s.heap.objs.size
      match o.data with
      | .seq xs _ => pure xs.toList
      | _ => unsupported "internal:collect") Q E
    { s with heap := (s.heap.push (seqObj "list" #[] 0)).update s.heap.objs.size (Obj.mapSeq (· ++ its.toArray)) }
  refine wpAny_bind (wpAny_load (get?_update_seq new _) ?_)
  show wpAny _ _ (pure ((#[] : Array Value) ++ its.toArray).toList) Q E _
  rw [show ((#[] : Array Value) ++ its.toArray).toList = its by simp]
  exact wpAny_pure h
theorem sorted_tup {t : Addr} {its : List Value} {ltv : Value → Value → Bool} {Q : Value → Shared → Prop} (O : SrtO.Swo ltv) (ht : IsTup s.heap t its.toArray) (hz : its.length ≤ sizeLine)
    (hS : 2 ≤ its.length → ∀ (h₁ : Heap) (a : Addr), SrtO.SortableO prog w A.in1.in1 { s with heap := h₁ } a its ltv)
    (h : ∀ out : List Value, SrtO.Srtd ltv out → SrtO.Stb ltv out its → Q (.ref (s.heap.objs.size + 1)) { s with heap := sortedAll s.heap its out.toArray }) :
    wpAny (model prog w) A (call (.builtin "sorted") [.ref t]) Q E s := by
  refine Calls.call_function_entry kind_sorted plain_sorted entry_sorted (args_sorted1 _) ?_
  unfold Builtin.«sorted»
  refine wpAny_bind (m := checkCount "sorted" 1 1 _) (wpAny_pure (wpAny_bind (collect_tup ht hz (wpAny_bind (wpAny_newList ?_ hz)))))
  have e1 : ((s.heap.push (seqObj "list" #[] 0)).update s.heap.objs.size (Obj.mapSeq (· ++ its.toArray))).objs.size = s.heap.objs.size + 1 := by
    rw [Heap.size_update, size_push']
  have e2 : (((s.heap.push (seqObj "list" #[] 0)).update s.heap.objs.size (Obj.mapSeq (· ++ its.toArray))).push (seqObj "list" its.toArray 0)).get? (s.heap.objs.size + 1) = some (seqObj "list" its.toArray 0) := by
    rw [← e1]; exact Heap.get?_push_size _ rfl
  show wpAny _ _ _ _ _ { s with heap := ((s.heap.push (seqObj "list" #[] 0)).update s.heap.objs.size
    (Obj.mapSeq (· ++ its.toArray))).push (seqObj "list" its.toArray 0) }
  rw [e1]
  refine wpAny_bind (wpAny_holding (wpAny_call_entry slot_list_sort ⟨_, e2, rfl⟩ entry_list_sort
    (SrtO.list_sort_ord O e2 hz (fun h2 => hS h2 _ _) fun out hs hb => ⟨_, rfl, ?_⟩) (args_list_sort _)))
  exact wpAny_pure ⟨_, rfl, h out hs hb⟩
end
section
variable {X : Cx}
/-- sorted(t), t a tuple of ints -/
theorem cr_sortedT : CallR X (.builtin "sorted") (fun xs H Q => ∃ (a : Addr) (ns : List Int), xs = [V.ref a] ∧ SqT X.K H a (ns.map V.int) ∧
    ∀ (ys : List Int) (p : Addr), ys.Perm ns → ys.Pairwise (· ≤ ·) → H p = none → Q (.ref p) (upd H p (.lst (ys.map V.int)))) := by
  intro pins s σ H vs us Q I r h
  obtain ⟨a, ns, rfl, hs, q⟩ := h
  obtain ⟨its, rv, hl, hz⟩ := I.tuple hs
  rw [Vals.ref1 r]
  have hi := rv.ints
  refine sorted_tup SrtO.swo_int hl (by rw [← rv.length]; exact hz) (fun h2 h₁ a' => SrtO.ints_sortable hi h2) fun out h1 h2 => ?_
  obtain ⟨k1, k2, k3⟩ := SrtO.ints_out hi h1 h2
  obtain ⟨ep, he'⟩ := PyProof.Rows.sortedAll_at s.heap its out.toArray
  have hlen : ((out.map SrtO.iv).map V.int).length ≤ sizeLine := by
    rw [List.length_map, k2.length_eq, ← List.length_map (f := V.int)]; exact hz
  refine ⟨.ref _, upd H (s.heap.objs.size + 1) (.lst ((out.map SrtO.iv).map V.int)), I.laid (t' := s.toks) (fun _ _ => PyProof.Rows.sortedAll_old) (Nat.le_succ _)
    ⟨hlen, out, ep, vals_of_ints k1, he'⟩, rfl, ?_⟩
  exact q _ _ k2 k3 (I.hok.fresh (Nat.le_succ _))
/-- where a tuple's object is told -/
abbrev tupObj (its : List Value) : Obj := { cls := .type "tuple", data := .seq its.toArray }
theorem fz_ok {P : Program} {w : World} {H : Hp} {h : Heap} {xs : List V} {its : List Value} (hz : xs.length ≤ sizeLine) (r : Vals xs its) : ObjOk P w H (h.push (tupObj its)) h.objs.size (.frz (tupObj its) (.tup xs)) :=
  ⟨Heap.get?_push_size _ rfl, hz, its, r, IsTup.new _ _⟩
/-- t + u, the object told -/
theorem op_catF : OpR X (binaryOp .Add) (fun x y H Q => ∃ a b xs ys, x = .ref a ∧ y = .ref b ∧ SqT X.K H a xs ∧ SqT X.K H b ys ∧ xs.length + ys.length ≤ sizeLine ∧
    (xs = [] → Q (.ref b) H) ∧ (xs ≠ [] → ys = [] → Q (.ref a) H) ∧ (xs ≠ [] → ys ≠ [] → ∀ p o, o.dict = none → H p = none → Q (.ref p) (upd H p (.frz o (.tup (xs ++ ys)))))) := by
  intro pins s σ H x y v u Q I rx ry h
  obtain ⟨a, b, xs, ys, rfl, rfl, ha, hb, hz, q0, q1, q2⟩ := h
  cases rx
  cases ry
  obtain ⟨its, r1, p1, _⟩ := I.tuple ha
  obtain ⟨its2, r2, p2, _⟩ := I.tuple hb
  by_cases hx : xs = []
  · subst hx
    cases r1
    exact L2.cat_tup0 p1 p2 ⟨.ref b, H, I, rfl, q0 rfl⟩
  · refine HT.cat_tup p1 p2 (fun z => hx (r1.nil_iff.mp z)) (fun z => ⟨.ref a, H, I, rfl, q1 hx (r2.nil_iff.mp z)⟩) (fun z => ?_) (by rw [← r1.length, ← r2.length]; exact hz)
    exact ⟨.ref s.heap.objs.size, _, I.laid (t' := s.toks) (o := .frz (tupObj (its ++ its2)) (.tup (xs ++ ys))) (fun b ob q => Heap.get?_push_of_some _ q) (Nat.le_refl _) (fz_ok (by rw [List.length_append]; exact hz) (r1.append r2)), rfl,
      q2 hx (fun e => z (r2.nil_iff.mpr e)) _ _ rfl (I.hok.fresh (Nat.le_refl _))⟩
/-- t[lo:hi], the object told -/
theorem sl_tupF : SlR X (fun x lo hi H Q => ∃ a xs, x = .ref a ∧ SqT X.K H a xs ∧
    (HT.sIx xs.length 0 lo = 0 ∧ HT.sIx xs.length xs.length hi = xs.length → Q (.ref a) H) ∧ (¬ (HT.sIx xs.length 0 lo = 0 ∧ HT.sIx xs.length xs.length hi = xs.length) → ∀ p o, o.dict = none → H p = none → Q (.ref p) (upd H p (.frz o (.tup (cutV xs lo hi)))))) := by
  intro pins s σ H x v vl vu lo hi sl Q I rx hs pl pu h
  obtain ⟨a, xs, rfl, hx, q1, q2⟩ := h
  cases rx
  obtain ⟨its, r, ht, hz⟩ := I.tuple hx
  have hlen : its.toArray.size = xs.length := by rw [List.size_toArray]; exact r.length.symm
  refine ⟨"tuple", _, PyProof.Rows.slot_tuple_getitem.lookup, ht.typeIs, ?_⟩
  by_cases hw : HT.sIx xs.length 0 lo = 0 ∧ HT.sIx xs.length xs.length hi = xs.length
  · exact L2.getItem_tuple_whole ht hs pl pu (by rw [hlen]; exact hw) ⟨.ref a, H, I, rfl, q1 hw⟩
  · refine HT.getItem_tuple_cut ht hs pl pu (by rw [hlen]; exact hw) ?_ (by rw [hlen]; exact hz)
    rw [hlen]
    exact ⟨.ref s.heap.objs.size, _, I.laid (t' := s.toks) (o := .frz (tupObj _) (.tup (cutV xs lo hi))) (fun b ob q => Heap.get?_push_of_some _ q) (Nat.le_refl _)
      (fz_ok (Nat.le_trans (cutV_length xs lo hi) hz) ((r.drop (HT.sIx xs.length 0 lo)).take (HT.sIx xs.length xs.length hi - HT.sIx xs.length 0 lo))), rfl, q2 hw _ _ rfl (I.hok.fresh (Nat.le_refl _))⟩
/-- (a, b, ..), the object told -/
def tTupF (t : TA) : TE := fun σ H Q => t σ H fun xs H1 => xs.length ≤ sizeLine ∧ ∀ p o, o.dict = none → H1 p = none → Q (.ref p) (upd H1 p (.frz o (.tup xs)))
end
end DL

set_option Elab.async false
set_option linter.all false
set_option maxRecDepth 100000
set_option maxHeartbeats 1000000
namespace DL
open PySem PySem.Spec PyProof.Rows L2

/-! ## data: what a value is, without addresses -/
inductive D where
  | non | bl (b : Bool) | int (i : Int) | str (s : Str)
  | tup (xs : List D) | lst (xs : List D)
  | dK (kvs : List (Key × D)) | dT (kvs : List (List Key × D))
  | ins (c : Str) (fs : List (Str × D))
  | scr (ns : List Int)
  | ord (ns : List Int)
  | ptr (a : Addr)
  | fl (xs : List D)

mutual
def D.imm : D → Bool
  | .non => true | .bl _ => true | .int _ => true | .str _ => true
  | .tup xs => immL xs
  | .lst _ => false | .dK _ => false | .dT _ => false | .ins _ _ => false | .scr _ => false
  | .ord _ => true
  | .ptr _ => false
  | .fl xs => immL xs
def immL : List D → Bool
  | [] => true
  | d :: ds => d.imm && immL ds
end
theorem immL_iff {ds : List D} : immL ds = true ↔ ∀ d ∈ ds, d.imm = true := by
  induction ds with
  | nil => simp [immL]
  | cons d ds ih => simp [immL, ih]
theorem immL_app {a b : List D} : immL (a ++ b) = (immL a && immL b) := by
  induction a with
  | nil => simp [immL]
  | cons d ds ih => simp [immL, ih, Bool.and_assoc]

/-! ## data stands in the heap -/
mutual
inductive Rep (K : PySem.W.Frag) (H : Hp) : D → V → List Addr → Prop
  | non : Rep K H .non .non []
  | bl (k : Bool) : Rep K H (.bl k) (.bl k) []
  | int (i : Int) : Rep K H (.int i) (.int i) []
  | str (s : Str) : Rep K H (.str s) (.str s) []
  | tup {ds : List D} {a : Addr} {vs : List V} {fp : List Addr} (h : H a = some (.tup vs)) (r : Reps K H ds vs fp) : Rep K H (.tup ds) (.ref a) fp
  | lst {ds : List D} {a : Addr} {vs : List V} {fp : List Addr} (h : H a = some (.lst vs)) (r : Reps K H ds vs fp) : Rep K H (.lst ds) (.ref a) (a :: fp)
  | dK {kvs : List (Key × D)} {es : List (Key × V)} {a : Addr} {fp : List Addr} (h : Rd H a (.dK es)) (hk : kvs.map (·.1) = es.map (·.1)) (nd : (kvs.map (·.1)).Nodup) (r : Reps K H (kvs.map (·.2)) (es.map (·.2)) fp) :
      Rep K H (.dK kvs) (.ref a) (a :: fp)
  | dT {kvs : List (List Key × D)} {es : List (List Key × V)} {a : Addr} {fp : List Addr} (h : Rd H a (.dT es)) (hk : kvs.map (·.1) = es.map (·.1)) (nd : (kvs.map (·.1)).Nodup) (r : Reps K H (kvs.map (·.2)) (es.map (·.2)) fp) :
      Rep K H (.dT kvs) (.ref a) (a :: fp)
  | ins {c : Str} {C : Addr} {fs : List (Str × D)} {es : List (Str × V)} {a dx : Addr} {fp : List Addr} (hc : PySem.W.nsIn K mainGlobals c = some (some (.ref C))) (h : H a = some (.ins C dx es)) (hk : fs.map (·.1) = es.map (·.1)) (r : Reps K H (fs.map (·.2)) (es.map (·.2)) fp) :
      Rep K H (.ins c fs) (.ref a) (a :: fp)
  | scrF {ns : List Int} {a : Addr} (h : Rd H a (.lst (ns.map V.int))) : Rep K H (.scr ns) (.ref a) [a]
  | scrK {ns : List Int} {a : Addr} (h : SqL K (fun _ => none) a (ns.map V.int)) : Rep K H (.scr ns) (.ref a) []
  | ord {ns : List Int} {a : Addr} {o : Obj} (h : H a = some (.frz o (.tup (ns.map V.int)))) (hd : o.dict = none) : Rep K H (.ord ns) (.ref a) []
  | ptr (a : Addr) : Rep K H (.ptr a) (.ref a) []
  | fl {ds : List D} {a : Addr} {o : Obj} {vs : List V} {fp : List Addr} (h : H a = some (.frz o (.lst vs))) (r : Reps K H ds vs fp) : Rep K H (.fl ds) (.ref a) fp
inductive Reps (K : PySem.W.Frag) (H : Hp) : List D → List V → List Addr → Prop
  | nil : Reps K H [] [] []
  | cons {d : D} {v : V} {f : List Addr} {ds : List D} {vs : List V} {g : List Addr} (h : Rep K H d v f) (t : Reps K H ds vs g) : Reps K H (d :: ds) (v :: vs) (f ++ g)
end

/-- which class a told exception's class is: a text stands for the program's class of that name -/
def cv (K : PySem.W.Frag) : Value → Value
  | .str n t => match PySem.W.nsIn K mainGlobals n with
    | some (some v) => v
    | _ => .str n t
  | v => v

/-! ## tables of code objects: they grow when a lambda is made -/
def lamNames : List Str := ["rows_of", "rows_of_musts", "_law_table", "_law_holders", "Counted.number", "_law_lanes", "_law_back"]
/-- the code object of a function, and its table -/
def tabFn (K : PySem.W.Frag) (f : Addr) : Option (Addr × Addr) := match K.lookup f with
  | some ⟨_, _, .func fd, _⟩ => (match fd.code with
    | .ref c => (match K.lookup c with
      | some ⟨_, _, .fields vs, _⟩ => (match (vs[11]? : Option Value) with
        | some (.ref P) => some (c, P)
        | _ => none)
      | _ => none)
    | _ => none)
  | _ => none
/-- of a def by its name, or of the one method that makes a lambda -/
def tabN (K : PySem.W.Frag) (x : Str) : Option (Addr × Addr) := if (x == ("Counted.number" : Str)) = true then
    (match PySem.W.nsIn K mainGlobals "Counted" with
    | some (some C) => (match PySem.W.findIn K C "number" with
      | some (some (.ref f)) => tabFn K f
      | _ => none)
    | _ => none)
  else PySem.W.tabIn K x
/-- the tables that grow, each with the name that its code objects bear -/
def tabK (K : PySem.W.Frag) : List (Addr × Str) := lamNames.filterMap fun x => (tabN K x).map fun p => (p.2, x ++ ".<locals>." ++ "<lambda>")
def TabsK (K : PySem.W.Frag) (H : Hp) : Prop := LamX.Tabs (tabK K) H
/-- all stays, but tables grow -/
def Ext (H H' : Hp) : Prop := ∀ a o, H a = some o → (∀ ps, o ≠ .tbl ps) → H' a = some o
structure Sm (K : PySem.W.Frag) (H H' : Hp) : Prop where
  ext : Ext H H'
  tab : TabsK K H'
theorem Ext.refl (H : Hp) : Ext H H := fun _ _ e _ => e
theorem Ext.of {H H' : Hp} (h : Same H H') : Ext H H' := fun a o e _ => h a o e
theorem Ext.trans {H H1 H2 : Hp} (h : Ext H H1) (k : Ext H1 H2) : Ext H H2 := fun a o e n => k a o (h a o e n) n
theorem Ext.at {H H' : Hp} (h : Ext H H') {a : Addr} {o : HO} (n : ∀ ps, o ≠ .tbl ps) (e : H a = some o) : H' a = some o := h a o e n
theorem Sm.refl {K : PySem.W.Frag} {H : Hp} (t : TabsK K H) : Sm K H H := ⟨.refl H, t⟩
theorem Sm.trans {K : PySem.W.Frag} {H H1 H2 : Hp} (h : Sm K H H1) (k : Sm K H1 H2) : Sm K H H2 := ⟨h.ext.trans k.ext, k.tab⟩
theorem TabsK.same {K : PySem.W.Frag} {H H' : Hp} (t : TabsK K H) (h : Same H H') : TabsK K H' := LamX.Tabs.ext t h
theorem Sm.of {K : PySem.W.Frag} {H H' : Hp} (t : TabsK K H) (h : Same H H') : Sm K H H' := ⟨.of h, t.same h⟩
theorem Sm.thn {K : PySem.W.Frag} {H H1 H2 : Hp} (h : Sm K H H1) (k : Same H1 H2) : Sm K H H2 := h.trans (.of h.tab k)
def Plain (o : HO) : Prop := (∀ ps, o ≠ .tbl ps) ∧ ∀ φ, o ≠ .ext φ
theorem TabsK.upd {K : PySem.W.Frag} {H H' : Hp} (t : TabsK K H) {p : Addr} (h : ∀ b o, b ≠ p → H b = some o → H' b = some o) (hp : ∀ o, H p = some o → Plain o) : TabsK K H' := fun x hx => by
  obtain ⟨ps, e1, e2, e3⟩ := t x hx
  refine ⟨ps, h _ _ (fun z => ?_) e1, e2, fun pos cv hc => ?_⟩
  · exact (hp _ (z ▸ e1)).1 ps rfl
  · obtain ⟨c, r1, r2⟩ := e3 pos cv hc
    refine ⟨c, r1, h _ _ (fun z => ?_) r2⟩
    have := (hp _ (z ▸ r2)).2
    unfold LamX.CodeO at this
    exact this _ rfl
/-- a heap without its tables -/
def ntO : Option HO → Option HO
  | some (.tbl _) => none
  | o => o
def nt (H : Hp) : Hp := fun a => ntO (H a)
theorem nt_at {H : Hp} {a : Addr} {o : HO} (e : H a = some o) (n : ∀ ps, o ≠ .tbl ps) : nt H a = some o := by
  unfold nt; rw [e]
  cases o <;> first | rfl | exact absurd rfl (n _)
theorem nt_same (H : Hp) : Same (nt H) H := fun a o e => by
  unfold nt at e
  cases q : H a with
  | none => rw [q] at e; cases e
  | some u => rw [q] at e; cases u <;> first | exact e | cases e
theorem nt_no (H : Hp) (a : Addr) (ps : Array Value) : nt H a ≠ some (.tbl ps) := fun e => by
  have := nt_same H a _ e
  unfold nt at e; rw [this] at e; cases e
theorem nt_none {H : Hp} {a : Addr} (h : nt H a = none) {o : HO} (e : H a = some o) (n : ∀ ps, o ≠ .tbl ps) : False := by rw [nt_at e n] at h; cases h
theorem nt_of {H : Hp} {a : Addr} (h : H a = none) : nt H a = none := by unfold nt; rw [h]; rfl
theorem Ext.free {H H' : Hp} (h : Ext H H') {a : Addr} (e : nt H' a = none) : nt H a = none := by
  cases q : nt H a with
  | none => rfl
  | some o => exact (nt_none e (h.at (fun ps z => nt_no H a ps (z ▸ q)) (nt_same H a o q)) fun ps z => nt_no H a ps (z ▸ q)).elim
theorem Ext.nt {H H' : Hp} (h : Ext H H') : Same (nt H) H' := fun a o e => h.at (fun ps z => nt_no H a ps (z ▸ e)) (nt_same H a o e)

/-- tuples, exact ones too -/
def TupO : HO → Prop
  | .tup _ => True
  | .frz _ (.tup _) => True
  | .frz _ (.lst _) => True
  | _ => False
def TupX : Type := { o : HO // TupO o }
theorem tno {u : HO} (ts : TupX) (e : some u = some ts.1) (h : ¬ TupO u := by exact fun z => z) : False := h (by have t := ts.2; rw [← Option.some.inj e] at t; exact t)
theorem TupX.nt (ts : TupX) (ps : Array Value) : ts.1 ≠ .tbl ps := fun z => by have t := ts.2; rw [z] at t; exact t
theorem TupX.nm (ts : TupX) : ¬ Mut (some ts.1) := by
  obtain ⟨o, t⟩ := ts
  cases o <;> first | exact fun z => z | exact t.elim
theorem TupX.plain (ts : TupX) : Plain ts.1 := ⟨ts.nt, fun φ z => by have t := ts.2; rw [z] at t; exact t⟩
abbrev TupX.t (vs : List V) : TupX := ⟨.tup vs, trivial⟩
abbrev TupX.l (o : Obj) (vs : List V) : TupX := ⟨.frz o (.lst vs), trivial⟩
abbrev TupX.f (o : Obj) (vs : List V) : TupX := ⟨.frz o (.tup vs), trivial⟩
/-- what H' keeps: all at fp, and every tuple -/
structure Kept (H H' : Hp) (fp : List Addr) : Prop where
  at_ : ∀ a ∈ fp, ∀ o, H a = some o → H' a = some o
  tup : ∀ a (xs : TupX), H a = some xs.1 → H' a = some xs.1
section
variable {K : PySem.W.Frag} {H H' : Hp}
theorem Kept.of_same {fp : List Addr} (h : Same H H') : Kept H H' fp := ⟨fun a _ o e => h a o e, fun a xs e => h a _ e⟩
theorem Kept.of_ext {fp : List Addr} (h : Ext H H') (n : ∀ a ∈ fp, ∀ ps, H a ≠ some (.tbl ps)) : Kept H H' fp := ⟨fun a m o e => h.at (fun ps z => n a m ps (z ▸ e)) e, fun a xs e => h.at xs.nt e⟩
theorem Kept.left {f g : List Addr} (h : Kept H H' (f ++ g)) : Kept H H' f := ⟨fun a m => h.at_ a (List.mem_append_left _ m), h.tup⟩
theorem Kept.right {f g : List Addr} (h : Kept H H' (f ++ g)) : Kept H H' g := ⟨fun a m => h.at_ a (List.mem_append_right _ m), h.tup⟩
theorem Kept.tail {a : Addr} {g : List Addr} (h : Kept H H' (a :: g)) : Kept H H' g := ⟨fun b m => h.at_ b (List.mem_cons_of_mem _ m), h.tup⟩
theorem Kept.rd {a : Addr} {g : List Addr} {u : HO} (h : Kept H H' (a :: g)) (r : Rd H a u) : Rd H' a u := by
  rcases r with e | ⟨o, e⟩
  · exact .inl (h.at_ a List.mem_cons_self _ e)
  · exact .inr ⟨o, h.at_ a List.mem_cons_self _ e⟩
mutual
theorem Rep.imm {d : D} {v : V} {fp : List Addr} : Rep K H d v fp → d.imm = true → fp = []
  | .non, _ => rfl
  | .bl _, _ => rfl
  | .int _, _ => rfl
  | .str _, _ => rfl
  | .tup _ r, h => r.imm (by simpa [D.imm] using h)
  | .lst _ _, h => by simp [D.imm] at h
  | .dK _ _ _ _, h => by simp [D.imm] at h
  | .dT _ _ _ _, h => by simp [D.imm] at h
  | .ins _ _ _ _, h => by simp [D.imm] at h
  | .scrF _, h => by simp [D.imm] at h
  | .scrK _, h => rfl
  | .ord _ _, h => rfl
  | .ptr _, _ => rfl
  | .fl _ r, h => r.imm (by simpa [D.imm] using h)
theorem Reps.imm {ds : List D} {vs : List V} {fp : List Addr} : Reps K H ds vs fp → immL ds = true → fp = []
  | .nil, _ => rfl
  | .cons h t, e => by
    simp only [immL, Bool.and_eq_true] at e
    rw [h.imm e.1, t.imm e.2]; rfl
end
mutual
theorem Rep.keep {d : D} {v : V} {fp : List Addr} : Rep K H d v fp → Kept H H' fp → Rep K H' d v fp
  | .non, _ => .non
  | .bl _, _ => .bl _
  | .int _, _ => .int _
  | .str _, _ => .str _
  | .tup h r, k => .tup (k.tup _ (.t _) h) (r.keep k)
  | .lst h r, k => .lst (k.at_ _ List.mem_cons_self _ h) (r.keep k.tail)
  | .dK h hk nd r, k => .dK (k.rd h) hk nd (r.keep k.tail)
  | .dT h hk nd r, k => .dT (k.rd h) hk nd (r.keep k.tail)
  | .ins hc h hk r, k => .ins hc (k.at_ _ List.mem_cons_self _ h) hk (r.keep k.tail)
  | .scrF h, k => .scrF (k.rd h)
  | .scrK h, k => .scrK h
  | .ord h hd, k => .ord (k.tup _ (.f _ _) h) hd
  | .ptr v, _ => .ptr v
  | .fl h r, k => .fl (k.tup _ (.l _ _) h) (r.keep k)
theorem Reps.keep {ds : List D} {vs : List V} {fp : List Addr} : Reps K H ds vs fp → Kept H H' fp → Reps K H' ds vs fp
  | .nil, _ => .nil
  | .cons h t, k => .cons (h.keep k.left) (t.keep k.right)
end
/-- no tuple, no table, something -/
def NTup (o : Option HO) : Prop := ∃ u, o = some u ∧ (∀ xs, u ≠ .tup xs) ∧ Plain u
theorem NTup.of_rd {a : Addr} {u : HO} (h : Rd H a u) (hn : ∀ xs, u ≠ .tup xs) (hn2 : Plain u) : NTup (H a) := by
  rcases h with e | ⟨o, e⟩
  · exact ⟨u, e, hn, hn2⟩
  · exact ⟨_, e, (fun xs q => by cases q), (fun xs q => by cases q), fun xs q => by cases q⟩
mutual
theorem Rep.there {d : D} {v : V} {fp : List Addr} : Rep K H d v fp → ∀ a ∈ fp, NTup (H a)
  | .non => fun _ h => by simp at h
  | .bl _ => fun _ h => by simp at h
  | .int _ => fun _ h => by simp at h
  | .str _ => fun _ h => by simp at h
  | .tup _ r => fun a m => r.there a m
  | .lst h r => fun a m => by
    rcases List.mem_cons.mp m with rfl | m
    · exact ⟨_, h, (fun xs q => by cases q), (fun xs q => by cases q), fun xs q => by cases q⟩
    · exact r.there a m
  | .dK h hk nd r => fun a m => by
    rcases List.mem_cons.mp m with rfl | m
    · exact .of_rd h (fun xs q => by cases q) ⟨(fun xs q => by cases q), (fun xs q => by cases q)⟩
    · exact r.there a m
  | .dT h hk nd r => fun a m => by
    rcases List.mem_cons.mp m with rfl | m
    · exact .of_rd h (fun xs q => by cases q) ⟨(fun xs q => by cases q), (fun xs q => by cases q)⟩
    · exact r.there a m
  | .ins _ h hk r => fun a m => by
    rcases List.mem_cons.mp m with rfl | m
    · exact ⟨_, h, (fun xs q => by cases q), (fun xs q => by cases q), fun xs q => by cases q⟩
    · exact r.there a m
  | .scrF h => fun a m => by
    rcases List.mem_cons.mp m with rfl | m
    · exact .of_rd h (fun xs q => by cases q) ⟨(fun xs q => by cases q), (fun xs q => by cases q)⟩
    · cases m
  | .scrK _ => fun _ h => by simp at h
  | .ord _ _ => fun _ h => by simp at h
  | .ptr _ => fun _ h => by simp at h
  | .fl _ r => fun a m => r.there a m
theorem Reps.there {ds : List D} {vs : List V} {fp : List Addr} : Reps K H ds vs fp → ∀ a ∈ fp, NTup (H a)
  | .nil => fun _ h => by simp at h
  | .cons h t => fun a m => by
    rcases List.mem_append.mp m with m | m
    · exact h.there a m
    · exact t.there a m
end
theorem NTup.nt {a : Addr} (h : NTup (H a)) (ps : Array Value) : H a ≠ some (.tbl ps) := fun e => by
  obtain ⟨u, e1, _, n⟩ := h
  rw [e] at e1; exact n.1 ps (Option.some.inj e1).symm
theorem TabsK.off {f : List Addr} (t : TabsK K H) (h : ∀ a o, H a = some o → a ∉ f → H' a = some o) (n : ∀ a ∈ f, NTup (H a)) : TabsK K H' := fun x hx => by
  obtain ⟨ps, e1, e2, e3⟩ := t x hx
  refine ⟨ps, h _ _ e1 fun m => ?_, e2, fun pos cv hc => ?_⟩
  · obtain ⟨u, q, _, z⟩ := n _ m
    rw [e1] at q; cases q; exact z.1 ps rfl
  · obtain ⟨c, r1, r2⟩ := e3 pos cv hc
    refine ⟨c, r1, h _ _ r2 fun m => ?_⟩
    obtain ⟨u, q, _, z⟩ := n _ m
    rw [r2] at q; cases q
    have := z.2
    unfold LamX.CodeO at this
    exact this _ rfl
theorem Rep.same {d : D} {v : V} {fp : List Addr} (r : Rep K H d v fp) (h : Same H H') : Rep K H' d v fp := r.keep (.of_same h)
theorem Reps.same {d : List D} {v : List V} {fp : List Addr} (r : Reps K H d v fp) (h : Same H H') : Reps K H' d v fp := r.keep (.of_same h)
theorem Rep.sm {d : D} {v : V} {fp : List Addr} (r : Rep K H d v fp) (h : Sm K H H') : Rep K H' d v fp := r.keep (.of_ext h.ext fun a m => (r.there a m).nt)
theorem Reps.sm {d : List D} {v : List V} {fp : List Addr} (r : Reps K H d v fp) (h : Sm K H H') : Reps K H' d v fp := r.keep (.of_ext h.ext fun a m => (r.there a m).nt)
theorem Rep.nt {d : D} {v : V} {fp : List Addr} (r : Rep K H d v fp) : Rep K (nt H) d v fp := r.keep (.of_ext (fun a o e n => nt_at e n) fun a m => (r.there a m).nt)
theorem Reps.nt {d : List D} {v : List V} {fp : List Addr} (r : Reps K H d v fp) : Reps K (DL.nt H) d v fp := r.keep (.of_ext (fun a o e n => nt_at e n) fun a m => (r.there a m).nt)
theorem Reps.len {ds : List D} {vs : List V} {fp : List Addr} (r : Reps K H ds vs fp) : ds.length = vs.length := by
  induction ds generalizing vs fp with
  | nil => cases r; rfl
  | cons d ds ih => cases r with | cons h t => simp [ih t]
theorem Reps.get {ds : List D} {vs : List V} {fp : List Addr} (r : Reps K H ds vs fp) {i : Nat} {d : D} (e : ds[i]? = some d) :
    ∃ v f, vs[i]? = some v ∧ Rep K H d v f ∧ ∀ a ∈ f, a ∈ fp := by
  induction ds generalizing vs fp i with
  | nil => simp at e
  | cons x ds ih =>
    cases r with
    | cons h t =>
      cases i with
      | zero => simp at e; subst e; exact ⟨_, _, rfl, h, fun a m => List.mem_append_left _ m⟩
      | succ i =>
        obtain ⟨v, f, e1, r1, s⟩ := ih t (i := i) (by simpa using e)
        exact ⟨v, f, by simpa using e1, r1, fun a m => List.mem_append_right _ (s a m)⟩
theorem Reps.app {ds ds' : List D} {vs vs' : List V} {f g : List Addr} (r : Reps K H ds vs f) (r' : Reps K H ds' vs' g) : Reps K H (ds ++ ds') (vs ++ vs') (f ++ g) := by
  induction ds generalizing vs f with
  | nil => cases r; exact r'
  | cons x ds ih => cases r with | cons h t => rw [List.append_assoc]; exact .cons h (ih t)
theorem Reps.split {ds ds' : List D} {us : List V} {fp : List Addr} (r : Reps K H (ds ++ ds') us fp) :
    ∃ vs vs' f g, us = vs ++ vs' ∧ fp = f ++ g ∧ Reps K H ds vs f ∧ Reps K H ds' vs' g := by
  induction ds generalizing us fp with
  | nil => exact ⟨[], us, [], fp, rfl, rfl, .nil, r⟩
  | cons x ds ih =>
    cases r with
    | cons h t =>
      obtain ⟨vs, vs', f, g, rfl, rfl, r1, r2⟩ := ih t
      exact ⟨_ :: vs, vs', _ ++ f, g, rfl, by rw [List.append_assoc], .cons h r1, r2⟩
theorem Reps.one {d : D} {v : V} {fp : List Addr} (r : Rep K H d v fp) : Reps K H [d] [v] fp := by
  have := Reps.cons r (Reps.nil (K := K) (H := H))
  rwa [List.append_nil] at this
theorem Reps.one_inv {d : D} {us : List V} {fp : List Addr} (r : Reps K H [d] us fp) : ∃ v, us = [v] ∧ Rep K H d v fp := by
  cases r with | cons h t => cases t; exact ⟨_, rfl, by rw [List.append_nil]; exact h⟩
/-- ints -/
theorem reps_ints : ∀ ns : List Int, Reps K H (ns.map .int) (ns.map V.int) []
  | [] => .nil
  | n :: ns => .cons (f := []) (.int n) (reps_ints ns)
theorem Reps.ints {ns : List Int} {vs : List V} {fp : List Addr} (r : Reps K H (ns.map .int) vs fp) : vs = ns.map V.int := by
  induction ns generalizing vs fp with
  | nil => cases r; rfl
  | cons n ns ih => cases r with | cons h t => cases h; rw [ih t]; rfl
theorem Reps.bls {ns : List Bool} {vs : List V} {fp : List Addr} (r : Reps K H (ns.map .bl) vs fp) : vs = ns.map V.bl := by
  induction ns generalizing vs fp with
  | nil => cases r; rfl
  | cons n ns ih => cases r with | cons h t => cases h; rw [ih t]; rfl
/-! ## cells -/
inductive Cell where
  | no | own (d : D) | pin (d : D) (v : V) | ro (d : D) (v : V) | lck (d : D) (v : V)
def MutAll (H : Hp) (fp : List Addr) : Prop := ∀ a ∈ fp, Mut (H a)
def CellOk (K : PySem.W.Frag) (Kp H : Hp) : Cell → Option V → List Addr → Prop
  | .no, _, fp => fp = []
  | .own d, u, fp => (∃ v, u = some v ∧ Rep K H d v fp) ∧ MutAll H fp
  | .pin d v, u, fp => (u = some v ∧ Rep K H d v fp) ∧ MutAll H fp
  | .ro d v, u, fp => fp = [] ∧ u = some v ∧ ∃ g, Rep K H d v g ∧ ∀ a ∈ g, ∃ o, Kp a = some o
  | .lck d v, u, fp => u = some v ∧ ∃ a o, v = .ref a ∧ Rep K H d v (a :: fp) ∧ MutAll H fp ∧ Kp a = some o
structure Sub (K : PySem.W.Frag) (Kp H : Hp) : Prop where
  sub : Same Kp H
  nt : ∀ a ps, Kp a ≠ some (.tbl ps)
  tab : TabsK K H
instance {K : PySem.W.Frag} {Kp H : Hp} : CoeFun (Sub K Kp H) (fun _ => Same Kp H) := ⟨fun s => s.sub⟩
structure SF (K : PySem.W.Frag) (Kp H : Hp) (ρ : List Cell) (σ : List (Option V)) (fp : Nat → List Addr) : Prop where
  len : ρ.length = σ.length
  cell : ∀ i c, ρ[i]? = some c → ∃ u, σ[i]? = some u ∧ CellOk K Kp H c u (fp i)
  out : ∀ i, ρ[i]? = none → fp i = []
  nd : ∀ i, (fp i).Nodup
  dj : ∀ i j a, a ∈ fp i → a ∈ fp j → i = j
  kp : ∀ i a, a ∈ fp i → Kp a = none
  sub : Sub K Kp H
def S (K : PySem.W.Frag) (Kp H : Hp) (ρ : List Cell) (σ : List (Option V)) : Prop := ∃ fp, SF K Kp H ρ σ fp
theorem Sub.step {K : PySem.W.Frag} {Kp H H' : Hp} (s : Sub K Kp H) (h : Sm K H H') : Sub K Kp H' := ⟨fun a o e => h.ext.at (fun ps z => s.nt a ps (z ▸ e)) (s.sub a o e), s.nt, h.tab⟩
theorem Mut.nt {o : Option HO} (h : Mut o) (ps : Array Value) : o ≠ some (.tbl ps) := fun e => by rw [e] at h; exact h
theorem Mut.some {o : Option HO} (h : Mut o) : ∃ u, o = some u := by
  cases o with
  | none => exact h.elim
  | some u => exact ⟨u, rfl⟩
theorem MutAll.keep {fp : List Addr} (m : MutAll H fp) (k : Kept H H' fp) : MutAll H' fp := fun a ha => by
  obtain ⟨u, e⟩ := Mut.some (m a ha)
  have := m a ha
  rw [e] at this
  rw [k.at_ a ha u e]; exact this
theorem CellOk.keep {Kp Kp' : Hp} {c : Cell} {u : Option V} {fp : List Addr} (h : CellOk K Kp H c u fp) (k : Kept H H' fp) (hs : ∀ a o, Kp a = some o → H a = some o)
    (hs' : ∀ a o, Kp a = some o → H' a = some o) (hkk : ∀ a o, Kp a = some o → ∃ o', Kp' a = some o') : CellOk K Kp' H' c u fp := by
  cases c with
  | no => exact h
  | own d => obtain ⟨⟨v, e, r⟩, m⟩ := h; exact ⟨⟨v, e, r.keep k⟩, m.keep k⟩
  | pin d v => obtain ⟨⟨e, r⟩, m⟩ := h; exact ⟨⟨e, r.keep k⟩, m.keep k⟩
  | ro d v =>
    obtain ⟨e, e2, g, r, hg⟩ := h
    refine ⟨e, e2, g, r.keep ⟨fun a ha o q => ?_, k.tup⟩, fun a ha => ?_⟩
    · obtain ⟨o', q'⟩ := hg a ha
      have := hs a o' q'
      rw [q] at this; cases this
      exact hs' a _ q'
    · obtain ⟨o', q'⟩ := hg a ha
      exact hkk a o' q'
  | lck d v =>
    obtain ⟨e, a, o, ev, r, m, q⟩ := h
    obtain ⟨o', q'⟩ := hkk a o q
    refine ⟨e, a, o', ev, r.keep ⟨fun c hc o2 q2 => ?_, k.tup⟩, m.keep k, q'⟩
    rcases List.mem_cons.mp hc with rfl | hc
    · have := hs c o q
      rw [q2] at this; cases this
      exact hs' c _ q
    · exact k.at_ c hc o2 q2
theorem CellOk.mut {Kp : Hp} {c : Cell} {u : Option V} {fp : List Addr} (h : CellOk K Kp H c u fp) : MutAll H fp := by
  cases c with
  | no => cases h; intro a ha; cases ha
  | own d => exact h.2
  | pin d v => exact h.2
  | ro d v => obtain ⟨e, _⟩ := h; subst e; intro a ha; cases ha
  | lck d v => obtain ⟨_, a, o, _, _, m, _⟩ := h; exact m
theorem CellOk.there {Kp : Hp} {c : Cell} {u : Option V} {fp : List Addr} (h : CellOk K Kp H c u fp) : ∀ a ∈ fp, NTup (H a) := by
  cases c with
  | no => cases h; intro a ha; cases ha
  | own d => obtain ⟨⟨v, _, r⟩, _⟩ := h; exact r.there
  | pin d v => obtain ⟨⟨_, r⟩, _⟩ := h; exact r.there
  | ro d v => obtain ⟨e, _⟩ := h; subst e; intro a ha; cases ha
  | lck d v => obtain ⟨_, a, o, _, r, _⟩ := h; exact fun b hb => r.there b (List.mem_cons_of_mem _ hb)
theorem SF.there {Kp : Hp} {ρ : List Cell} {σ : List (Option V)} {fp : Nat → List Addr} (s : SF K Kp H ρ σ fp) (i : Nat) : ∀ a ∈ fp i, NTup (H a) := by
  cases e : ρ[i]? with
  | none => rw [s.out i e]; intro a ha; cases ha
  | some c => obtain ⟨u, _, h⟩ := s.cell i c e; exact h.there
theorem SF.mut {Kp : Hp} {ρ : List Cell} {σ : List (Option V)} {fp : Nat → List Addr} (s : SF K Kp H ρ σ fp) (i : Nat) : MutAll H (fp i) := by
  cases e : ρ[i]? with
  | none => rw [s.out i e]; intro a ha; cases ha
  | some c => obtain ⟨u, _, h⟩ := s.cell i c e; exact h.mut
theorem SF.step {Kp : Hp} {ρ : List Cell} {σ : List (Option V)} {fp : Nat → List Addr} (s : SF K Kp H ρ σ fp) (h : Sm K H H') : SF K Kp H' ρ σ fp := by
  refine ⟨s.len, fun i c e => ?_, s.out, s.nd, s.dj, s.kp, s.sub.step h⟩
  obtain ⟨u, e1, q⟩ := s.cell i c e
  exact ⟨u, e1, q.keep (.of_ext h.ext fun a m => Mut.nt (q.mut a m)) s.sub.sub (s.sub.step h).sub (fun a o e => ⟨o, e⟩)⟩
theorem S.step {Kp : Hp} {ρ : List Cell} {σ : List (Option V)} (s : S K Kp H ρ σ) (h : Sm K H H') : S K Kp H' ρ σ := by
  obtain ⟨fp, s⟩ := s
  exact ⟨fp, s.step h⟩
theorem S.tab {Kp : Hp} {ρ : List Cell} {σ : List (Option V)} (s : S K Kp H ρ σ) : TabsK K H := by
  obtain ⟨fp, s⟩ := s
  exact s.sub.tab
theorem S.same {Kp : Hp} {ρ : List Cell} {σ : List (Option V)} (s : S K Kp H ρ σ) (h : Same H H') : S K Kp H' ρ σ := s.step (.of s.tab h)
/-- a result that stands by itself -/
structure Fresh (K : PySem.W.Frag) (H H' : Hp) (d : D) (v : V) (f : List Addr) : Prop where
  rep : Rep K H' d v f
  nd : f.Nodup
  new : ∀ a ∈ f, nt H a = none
  mu : MutAll H' f
theorem Fresh.imm {d : D} {v : V} (h : d.imm = true) {f : List Addr} (r : Rep K H' d v f) : Fresh K H H' d v [] := by
  have e := r.imm h
  subst e
  exact ⟨r, List.nodup_nil, fun a m => absurd m List.not_mem_nil, fun a m => absurd m List.not_mem_nil⟩
theorem MutAll.ntSome {fp : List Addr} (m : MutAll H fp) {a : Addr} (h : a ∈ fp) : nt H a ≠ none := fun e => by
  obtain ⟨u, q⟩ := Mut.some (m a h)
  exact nt_none e q fun ps z => Mut.nt (m a h) ps (z ▸ q)
theorem MutAll.isSome {fp : List Addr} (m : MutAll H fp) {a : Addr} (h : a ∈ fp) : H a ≠ none := fun e => by
  have := m a h
  rw [e] at this; exact this
/-- one more at the end -/
theorem SF.snoc {Kp : Hp} {ρ : List Cell} {σ : List (Option V)} {fp : Nat → List Addr} (s : SF K Kp H ρ σ fp) {c : Cell} {u : Option V} {f : List Addr} (hc : CellOk K Kp H c u f) (nd : f.Nodup)
    (dj : ∀ a ∈ f, ∀ j, a ∉ fp j) (kp : ∀ a ∈ f, Kp a = none) : SF K Kp H (ρ ++ [c]) (σ ++ [u]) (fun i => if i = ρ.length then f else fp i) where
  len := by simp [s.len]
  cell := fun i c' e => by
    by_cases hi : i < ρ.length
    · rw [List.getElem?_append_left hi] at e
      obtain ⟨u', e1, q⟩ := s.cell i c' e
      refine ⟨u', ?_, ?_⟩
      · rw [List.getElem?_append_left (s.len ▸ hi)]; exact e1
      · rw [if_neg (Nat.ne_of_lt hi)]; exact q
    · by_cases hi2 : i = ρ.length
      · subst hi2
        simp at e; subst e
        refine ⟨u, by rw [s.len]; simp, by rw [if_pos rfl]; exact hc⟩
      · rw [List.getElem?_eq_none (by simp; omega)] at e; cases e
  out := fun i e => by
    have h1 : ρ.length + 1 ≤ i := by simpa using List.getElem?_eq_none_iff.mp e
    rw [if_neg (by omega)]
    exact s.out i (List.getElem?_eq_none (by omega))
  nd := fun i => by by_cases h : i = ρ.length <;> simp [h, nd, s.nd]
  dj := fun i j a hi hj => by
    by_cases h : i = ρ.length <;> by_cases h2 : j = ρ.length
    · rw [h, h2]
    · rw [if_pos h] at hi; rw [if_neg h2] at hj; exact absurd hj (dj a hi j)
    · rw [if_neg h] at hi; rw [if_pos h2] at hj; exact absurd hi (dj a hj i)
    · rw [if_neg h] at hi; rw [if_neg h2] at hj; exact s.dj i j a hi hj
  kp := fun i a hi => by
    by_cases h : i = ρ.length
    · rw [if_pos h] at hi; exact kp a hi
    · rw [if_neg h] at hi; exact s.kp i a hi
  sub := s.sub
theorem S.push {Kp : Hp} {ρ : List Cell} {σ : List (Option V)} (s : S K Kp H ρ σ) (h : Sm K H H') {d : D} {v : V} {f : List Addr} (r : Fresh K H H' d v f) : S K Kp H' (ρ ++ [.own d]) (σ ++ [some v]) := by
  obtain ⟨fp, s⟩ := s
  have s' : SF K Kp H' ρ σ fp := s.step h
  refine ⟨_, s'.snoc (c := .own d) (u := some v) (f := f) ⟨⟨v, rfl, r.rep⟩, r.mu⟩ r.nd (fun a ha j hj => ?_) (fun a ha => ?_)⟩
  · exact (s.mut j).ntSome hj (r.new a ha)
  · cases q : Kp a with
    | none => rfl
    | some o => exact (nt_none (r.new a ha) (s.sub a o q) fun ps z => s.sub.nt a ps (z ▸ q)).elim
theorem S.pushRo {Kp : Hp} {ρ : List Cell} {σ : List (Option V)} (s : S K Kp H ρ σ) {d : D} {v : V} {g : List Addr} (r : Rep K H d v g) (hg : ∀ a ∈ g, ∃ o, Kp a = some o) : S K Kp H (ρ ++ [.ro d v]) (σ ++ [some v]) := by
  obtain ⟨fp, s⟩ := s
  exact ⟨_, s.snoc (c := .ro d v) (u := some v) (f := []) ⟨rfl, rfl, g, r, hg⟩ List.nodup_nil (fun a ha => absurd ha List.not_mem_nil) (fun a ha => absurd ha List.not_mem_nil)⟩
/-- c may be taken for c' -/
inductive Cell.le : Cell → Cell → Prop
  | refl (c) : Cell.le c c
  | no (c) : Cell.le .no c
  | unpin (d v) : Cell.le (.own d) (.pin d v)
theorem CellOk.le {Kp : Hp} {c c' : Cell} {u : Option V} {fp : List Addr} (h : CellOk K Kp H c' u fp) (l : Cell.le c c') : ∃ f, CellOk K Kp H c u f ∧ (f = [] ∨ f = fp) := by
  cases l with
  | refl => exact ⟨fp, h, .inr rfl⟩
  | no => exact ⟨[], rfl, .inl rfl⟩
  | unpin d v => obtain ⟨⟨e, r⟩, m⟩ := h; exact ⟨fp, ⟨⟨v, e, r⟩, m⟩, .inr rfl⟩
/-- the cells in another order, some left out -/
theorem S.remap {Kp : Hp} {ρ ρ' : List Cell} {σ σ' : List (Option V)} (s : S K Kp H ρ σ) (hl : ρ'.length = σ'.length) (π : Nat → Nat)
    (h : ∀ j c, ρ'[j]? = some c → c = .no ∨ ∃ c', ρ[π j]? = some c' ∧ Cell.le c c' ∧ σ'[j]? = σ[π j]?)
    (inj : ∀ i j c c', ρ'[i]? = some c → ρ'[j]? = some c' → c ≠ .no → c' ≠ .no → π i = π j → i = j) : S K Kp H ρ' σ' := by
  obtain ⟨fp, s⟩ := s
  have key : ∀ j, ∃ f, (∀ c, ρ'[j]? = some c → ∃ u, σ'[j]? = some u ∧ CellOk K Kp H c u f) ∧ (f = [] ∨ (f = fp (π j) ∧ ∃ c, ρ'[j]? = some c ∧ c ≠ .no)) ∧ (ρ'[j]? = none → f = []) := fun j => by
    cases e : ρ'[j]? with
    | none => exact ⟨[], (fun c q => by cases q), Or.inl rfl, fun _ => rfl⟩
    | some c =>
      have hj : j < σ'.length := by rw [← hl]; exact (List.getElem?_eq_some_iff.mp e).1
      rcases h j c e with rfl | ⟨c', e1, l, e2⟩
      · exact ⟨[], fun c q => by cases q; exact ⟨_, List.getElem?_eq_getElem hj, rfl⟩, .inl rfl, fun q => rfl⟩
      · obtain ⟨u, eu, q⟩ := s.cell _ _ e1
        obtain ⟨f, q', hf⟩ := q.le l
        refine ⟨f, fun c2 q2 => by cases q2; exact ⟨u, e2.trans eu, q'⟩, ?_, fun q => by cases q⟩
        rcases hf with rfl | rfl
        · exact .inl rfl
        · by_cases hc : c = .no
          · subst hc; exact .inl q'
          · exact .inr ⟨rfl, c, rfl, hc⟩
  refine ⟨fun j => Classical.choose (key j), hl, fun i c e => (Classical.choose_spec (key i)).1 c e, fun i e => (Classical.choose_spec (key i)).2.2 e, fun i => ?_, fun i j a hi hj => ?_, fun i a hi => ?_, s.sub⟩
  · rcases (Classical.choose_spec (key i)).2.1 with e | ⟨e, _⟩
    · rw [e]; exact List.nodup_nil
    · rw [e]; exact s.nd _
  · rcases (Classical.choose_spec (key i)).2.1 with e | ⟨e, c, ec, nc⟩
    · rw [e] at hi; cases hi
    · rcases (Classical.choose_spec (key j)).2.1 with e' | ⟨e', c', ec', nc'⟩
      · rw [e'] at hj; cases hj
      · rw [e] at hi; rw [e'] at hj
        exact inj i j c c' ec ec' nc nc' (s.dj _ _ a hi hj)
  · rcases (Classical.choose_spec (key i)).2.1 with e | ⟨e, _⟩
    · rw [e] at hi; cases hi
    · rw [e] at hi; exact s.kp _ a hi
/-- new for old in a frame -/
inductive Cell.fits : Cell → Cell → Prop
  | no (c) : Cell.fits .no c
  | own (d c) : Cell.fits (.own d) c
  | pin (d v c) : Cell.fits (.pin d v) c
  | ro (d v) : Cell.fits (.ro d v) (.ro d v)
  | lck (d d' v) : Cell.fits (.lck d v) (.lck d' v)
def setMany {α : Type} : List α → List Nat → List α → List α
  | ρ, i :: is, c :: cs => setMany (ρ.set i c) is cs
  | ρ, _, _ => ρ
theorem setMany_len {α : Type} : ∀ (is : List Nat) (cs ρ : List α), (setMany ρ is cs).length = ρ.length
  | [], _, _ => by simp [setMany]
  | _ :: _, [], _ => by simp [setMany]
  | i :: is, c :: cs, ρ => by simp [setMany, setMany_len is cs]
theorem setMany_out {α : Type} : ∀ (is : List Nat) (cs ρ : List α) (j : Nat), j ∉ is → (setMany ρ is cs)[j]? = ρ[j]?
  | [], _, _, _, _ => by simp [setMany]
  | _ :: _, [], _, _, _ => by simp [setMany]
  | i :: is, c :: cs, ρ, j, h => by
    rw [List.mem_cons, not_or] at h
    simp only [setMany]
    rw [setMany_out is cs _ j h.2, List.getElem?_set_ne (Ne.symm h.1)]
theorem setMany_in {α : Type} : ∀ (is : List Nat) (cs ρ : List α) (k i : Nat), is.Nodup → is.length = cs.length → is[k]? = some i → i < ρ.length → (setMany ρ is cs)[i]? = cs[k]?
  | [], _, _, _, _, _, _, h, _ => by simp at h
  | _ :: _, [], _, _, _, _, h, _, _ => by simp at h
  | i :: is, c :: cs, ρ, 0, j, nd, hl, e, hj => by
    simp at e; subst e
    simp only [setMany]
    rw [setMany_out is cs _ i (List.nodup_cons.mp nd).1]
    simp [hj]
  | i :: is, c :: cs, ρ, k + 1, j, nd, hl, e, hj => by
    simp only [setMany]
    rw [setMany_in is cs _ k j (List.nodup_cons.mp nd).2 (by simpa using hl) (by simpa using e) (by simpa using hj)]
    simp
theorem idx_get {is : List Nat} {i : Nat} (h : i ∈ is) : is[is.idxOf i]? = some i := by
  have h1 : is.idxOf i < is.length := List.idxOf_lt_length_iff.mpr h
  rw [List.getElem?_eq_getElem h1, List.getElem_idxOf]
theorem S.frame {Kp : Hp} {ρ : List Cell} {σ : List (Option V)} (s : S K Kp H ρ σ) (is : List Nat) (nd : is.Nodup) (hin : ∀ i ∈ is, i < ρ.length) :
    ∃ Kc, S K Kc H (is.map fun i => ρ.getD i .no) (is.map fun i => σ.getD i none) ∧
      ∀ (ρ1 ρx : List Cell) (σx : List (Option V)) (H' : Hp), ρ1.length = is.length → (∀ (k : Nat) (c : Cell) (i : Nat), ρ1[k]? = some c → is[k]? = some i → Cell.fits c (ρ.getD i .no)) →
        (∀ c ∈ ρx, c = .no ∨ ∃ d, c = .own d) → S K Kc H' (ρ1 ++ ρx) ((is.map fun i => σ.getD i none) ++ σx) →
          S K Kp H' (setMany ρ is ρ1 ++ ρx) (σ ++ σx) := by
  obtain ⟨fp, s⟩ := s
  classical
  let Kc : Hp := fun a => if ∃ i ∈ is, a ∈ fp i then none else nt H a
  have kc1 : ∀ a o, Kp a = some o → Kc a = some o := fun a o e => by
    have : ¬ ∃ i ∈ is, a ∈ fp i := fun ⟨i, _, m⟩ => by rw [s.kp i a m] at e; cases e
    show (if ∃ i ∈ is, a ∈ fp i then none else nt H a) = some o
    rw [if_neg this]; exact nt_at (s.sub a o e) fun ps z => s.sub.nt a ps (z ▸ e)
  have kc2 : ∀ i, i ∉ is → ∀ a ∈ fp i, Kc a = H a := fun i hi a m => by
    have : ¬ ∃ i ∈ is, a ∈ fp i := fun ⟨j, hj, m'⟩ => hi (s.dj i j a m m' ▸ hj)
    show (if ∃ i ∈ is, a ∈ fp i then none else nt H a) = H a
    rw [if_neg this]
    have hm := s.mut i a m
    cases q : H a with
    | none => unfold nt; rw [q]; rfl
    | some u => exact nt_at q fun ps z => by subst z; exact Mut.nt hm ps q
  have kc3 : ∀ a (xs : TupX), H a = some xs.1 → Kc a = some xs.1 := fun a xs e => by
    have : ¬ ∃ i ∈ is, a ∈ fp i := fun ⟨i, _, m⟩ => by
      have := s.mut i a m
      rw [e] at this; exact xs.nm this
    show (if ∃ i ∈ is, a ∈ fp i then none else nt H a) = some xs.1
    rw [if_neg this]; exact nt_at e xs.nt
  have kc4 : ∀ a o, Kc a = some o → H a = some o := fun a o e => by
    by_cases h : ∃ i ∈ is, a ∈ fp i
    · have e' : (if ∃ i ∈ is, a ∈ fp i then none else nt H a) = some o := e
      rw [if_pos h] at e'; cases e'
    · have e' : (if ∃ i ∈ is, a ∈ fp i then none else nt H a) = some o := e
      rw [if_neg h] at e'; exact nt_same H a o e'
  have kc5 : ∀ a ps, Kc a ≠ some (.tbl ps) := fun a ps e => by
    by_cases h : ∃ i ∈ is, a ∈ fp i
    · have e' : (if ∃ i ∈ is, a ∈ fp i then none else nt H a) = some (.tbl ps) := e
      rw [if_pos h] at e'; cases e'
    · have e' : (if ∃ i ∈ is, a ∈ fp i then none else nt H a) = some (.tbl ps) := e
      rw [if_neg h] at e'; exact nt_no H a ps e'
  have ge : ∀ i, i < ρ.length → ρ[i]? = some (ρ.getD i .no) := fun i hi => by
    rw [List.getD_eq_getElem?_getD, List.getElem?_eq_getElem hi]; rfl
  have gs : ∀ i, i < ρ.length → σ[i]? = some (σ.getD i none) := fun i hi => by
    rw [List.getD_eq_getElem?_getD, List.getElem?_eq_getElem (s.len ▸ hi)]; rfl
  refine ⟨Kc, ⟨fun k => match is[k]? with | some i => fp i | none => [], by simp, fun k c e => ?_, fun k e => ?_, fun k => ?_, fun j k a hj hk => ?_, fun k a hk => ?_, ⟨kc4, kc5, s.sub.tab⟩⟩, ?_⟩
  · obtain ⟨i, ei, ec⟩ : ∃ i, is[k]? = some i ∧ ρ.getD i .no = c := by
      rw [List.getElem?_map] at e
      exact Option.map_eq_some_iff.mp e
    have hi : i < ρ.length := hin i (List.mem_of_getElem? ei)
    obtain ⟨u, eu, q⟩ := s.cell i c (by rw [ge i hi, ec])
    refine ⟨u, by simp [ei]; rw [gs i hi] at eu; simpa using eu, ?_⟩
    rw [ei]
    exact q.keep (.of_same fun _ _ x => x) s.sub.sub s.sub.sub fun a o q => ⟨o, kc1 a o q⟩
  · have e' : is[k]? = none := by simpa using e
    simp [e']
  · cases e : is[k]? with
    | none => simp
    | some i => exact s.nd i
  · cases e : is[k]? with
    | none => rw [e] at hk; cases hk
    | some i =>
      cases e' : is[j]? with
      | none => rw [e'] at hj; cases hj
      | some i' =>
        rw [e] at hk; rw [e'] at hj
        have := s.dj i' i a hj hk
        subst this
        obtain ⟨h1, e1⟩ := List.getElem?_eq_some_iff.mp e
        obtain ⟨h2, e2⟩ := List.getElem?_eq_some_iff.mp e'
        exact (List.getElem_inj nd).mp (e2.trans e1.symm)
  · cases e : is[k]? with
    | none => rw [e] at hk; cases hk
    | some i =>
      rw [e] at hk
      show (if ∃ i ∈ is, a ∈ fp i then none else nt H a) = none
      rw [if_pos ⟨i, List.mem_of_getElem? e, hk⟩]
  · intro ρ1 ρx σx H' hl hfit hx s2
    obtain ⟨fq, s2⟩ := s2
    have hK : ∀ a o, Kc a = some o → H' a = some o := s2.sub.sub
    have hP : ∀ a o, Kp a = some o → H' a = some o := fun a o e => hK a o (kc1 a o e)
    have ht : ∀ a (xs : TupX), H a = some xs.1 → H' a = some xs.1 := fun a xs e => hK a _ (kc3 a xs e)
    have hlx : ρx.length = σx.length := by have := s2.len; simp [hl] at this; exact this
    have cellX : ∀ (j : Nat) (c : Cell), ρx[j]? = some c → ∃ u, σx[j]? = some u ∧ CellOk K Kc H' c u (fq (is.length + j)) := fun j c e => by
      obtain ⟨u, eu, q⟩ := s2.cell (is.length + j) c (by rw [List.getElem?_append_right (by omega), hl]; simpa using e)
      refine ⟨u, ?_, q⟩
      rw [List.getElem?_append_right (by simp)] at eu
      simpa using eu
    have cell1 : ∀ (k : Nat) (c : Cell) (i : Nat), ρ1[k]? = some c → is[k]? = some i → ∃ u, σ[i]? = some u ∧ CellOk K Kc H' c u (fq k) := fun k c i e ei => by
      have hk : k < ρ1.length := (List.getElem?_eq_some_iff.mp e).1
      obtain ⟨u, eu, q⟩ := s2.cell k c (by rw [List.getElem?_append_left hk]; exact e)
      refine ⟨u, ?_, q⟩
      rw [List.getElem?_append_left (by simpa [← hl] using hk)] at eu
      have hi : i < ρ.length := hin i (List.mem_of_getElem? ei)
      rw [gs i hi]
      simpa [ei] using eu
    have outQ : ∀ k, is.length + ρx.length ≤ k → fq k = [] := fun k hk => s2.out k (List.getElem?_eq_none (by simp [hl]; omega))
    let g : Nat → List Addr := fun i => if i < ρ.length then (if i ∈ is then fq (is.idxOf i) else fp i) else fq (is.length + (i - ρ.length))
    have g1 : ∀ i, i < ρ.length → i ∈ is → g i = fq (is.idxOf i) := fun i h h' => by show (if i < ρ.length then (if i ∈ is then _ else _) else _) = _; rw [if_pos h, if_pos h']
    have g2 : ∀ i, i < ρ.length → i ∉ is → g i = fp i := fun i h h' => by show (if i < ρ.length then (if i ∈ is then _ else _) else _) = _; rw [if_pos h, if_neg h']
    have g3 : ∀ i, ¬ i < ρ.length → g i = fq (is.length + (i - ρ.length)) := fun i h => by show (if i < ρ.length then (if i ∈ is then _ else _) else _) = _; rw [if_neg h]
    have gcase : ∀ i a, a ∈ g i → (∃ k, a ∈ fq k ∧ ((i < ρ.length ∧ is[k]? = some i) ∨ (¬ i < ρ.length ∧ k = is.length + (i - ρ.length)))) ∨ (i < ρ.length ∧ i ∉ is ∧ a ∈ fp i) := fun i a h => by
      by_cases h1 : i < ρ.length
      · by_cases h2 : i ∈ is
        · rw [g1 i h1 h2] at h; exact .inl ⟨_, h, .inl ⟨h1, idx_get h2⟩⟩
        · rw [g2 i h1 h2] at h; exact .inr ⟨h1, h2, h⟩
      · rw [g3 i h1] at h; exact .inl ⟨_, h, .inr ⟨h1, rfl⟩⟩
    have apart : ∀ k i a, a ∈ fq k → i ∉ is → a ∈ fp i → False := fun k i a h h1 h2 => by
      have e1 := s2.kp k a h
      rw [kc2 i h1 a h2] at e1
      exact (s.mut i).isSome h2 e1
    refine ⟨g, ⟨by simp [setMany_len, s.len, hlx], fun i c e => ?_, fun i e => ?_, fun i => ?_, fun i j a hi hj => ?_, fun i a hi => ?_, ⟨hP, s.sub.nt, s2.sub.tab⟩⟩⟩
    · by_cases h1 : i < ρ.length
      · rw [List.getElem?_append_left (by rw [setMany_len]; exact h1)] at e
        by_cases h2 : i ∈ is
        · rw [g1 i h1 h2]
          have ei := idx_get h2
          rw [setMany_in is ρ1 ρ _ i nd hl.symm ei h1] at e
          obtain ⟨u, eu, q⟩ := cell1 _ c i e ei
          refine ⟨u, by rw [List.getElem?_append_left (s.len ▸ h1)]; exact eu, ?_⟩
          obtain ⟨u0, eu0, q0⟩ := s.cell i _ (ge i h1)
          rw [eu] at eu0; cases eu0
          have ft := hfit _ c i e ei
          generalize ρ.getD i .no = c0 at ft q0
          cases ft with
          | no => exact q
          | own => exact q
          | pin => exact q
          | ro d v =>
            obtain ⟨ef, _, gg, r, hg⟩ := q0
            refine ⟨q.1, q.2.1, gg, r.keep ⟨fun a m o x => ?_, ht⟩, hg⟩
            obtain ⟨o', x'⟩ := hg a m
            have := s.sub a o' x'
            rw [x] at this; cases this
            exact hP a _ x'
          | lck d d' v =>
            obtain ⟨_, a, o, ev, r, m, x⟩ := q0
            obtain ⟨e5, a', o', ev', r', m', x'⟩ := q
            rw [ev] at ev'; cases ev'
            exact ⟨e5, a, o, ev, r', m', x⟩
        · rw [g2 i h1 h2]
          rw [setMany_out is ρ1 ρ i h2] at e
          obtain ⟨u, eu, q⟩ := s.cell i c e
          refine ⟨u, by rw [List.getElem?_append_left (s.len ▸ h1)]; exact eu, q.keep ⟨fun a m o x => ?_, ht⟩ s.sub.sub hP fun a o q => ⟨o, q⟩⟩
          exact hK a o (by rw [kc2 i h2 a m]; exact x)
      · rw [g3 i h1]
        rw [List.getElem?_append_right (by rw [setMany_len]; omega), setMany_len] at e
        obtain ⟨u, eu, q⟩ := cellX _ c e
        refine ⟨u, by rw [List.getElem?_append_right (by rw [← s.len]; omega), ← s.len]; exact eu, ?_⟩
        rcases hx c (List.mem_of_getElem? e) with rfl | ⟨d, rfl⟩
        · exact q
        · exact q
    · have h1 : ρ.length + ρx.length ≤ i := by simpa [setMany_len] using List.getElem?_eq_none_iff.mp e
      rw [g3 i (by omega)]
      exact outQ _ (by omega)
    · by_cases h1 : i < ρ.length
      · by_cases h2 : i ∈ is
        · rw [g1 i h1 h2]; exact s2.nd _
        · rw [g2 i h1 h2]; exact s.nd _
      · rw [g3 i h1]; exact s2.nd _
    · rcases gcase i a hi with ⟨k, mk, ck⟩ | ⟨h1, h2, m1⟩
      · rcases gcase j a hj with ⟨k', mk', ck'⟩ | ⟨h1', h2', m1'⟩
        · have e := s2.dj k k' a mk mk'
          subst e
          have lt : ∀ {k i : Nat}, is[k]? = some i → k < is.length := fun e => (List.getElem?_eq_some_iff.mp e).1
          rcases ck with ⟨h1, e1⟩ | ⟨h1, e1⟩ <;> rcases ck' with ⟨h2, e2⟩ | ⟨h2, e2⟩
          · rw [e1] at e2; exact Option.some.inj e2
          · have := lt e1; omega
          · have := lt e2; omega
          · omega
        · exact (apart k j a mk h2' m1').elim
      · rcases gcase j a hj with ⟨k', mk', ck'⟩ | ⟨h1', h2', m1'⟩
        · exact (apart k' i a mk' h2 m1).elim
        · exact s.dj i j a m1 m1'
    · rcases gcase i a hi with ⟨k, mk, ck⟩ | ⟨h1, h2, m1⟩
      · cases q : Kp a with
        | none => rfl
        | some o => have := s2.kp k a mk; rw [kc1 a o q] at this; cases this
      · exact s.kp i a m1
end
end DL

namespace DL
open PySem PySem.Spec PyProof.Rows L2
set_option linter.all false
set_option Elab.async false
set_option maxRecDepth 100000
set_option maxHeartbeats 1000000

/-! ## D2: what operators do, over data -/
theorem Rep.int_inv {K : PySem.W.Frag} {H : Hp} {i : Int} {v : V} {fp : List Addr} (r : Rep K H (.int i) v fp) : v = .int i ∧ fp = [] := by cases r; exact ⟨rfl, rfl⟩
theorem Rep.str_inv {K : PySem.W.Frag} {H : Hp} {i : Str} {v : V} {fp : List Addr} (r : Rep K H (.str i) v fp) : v = .str i ∧ fp = [] := by cases r; exact ⟨rfl, rfl⟩
theorem Rep.bl_inv {K : PySem.W.Frag} {H : Hp} {i : Bool} {v : V} {fp : List Addr} (r : Rep K H (.bl i) v fp) : v = .bl i ∧ fp = [] := by cases r; exact ⟨rfl, rfl⟩
theorem Rep.tup_inv {K : PySem.W.Frag} {H : Hp} {ds : List D} {v : V} {fp : List Addr} (r : Rep K H (.tup ds) v fp) : ∃ a vs, v = .ref a ∧ H a = some (.tup vs) ∧ Reps K H ds vs fp := by
  cases r with | tup h r => exact ⟨_, _, rfl, h, r⟩
theorem Rep.ord_inv {K : PySem.W.Frag} {H : Hp} {ns : List Int} {v : V} {fp : List Addr} (r : Rep K H (.ord ns) v fp) : ∃ a o, v = .ref a ∧ H a = some (.frz o (.tup (ns.map V.int))) ∧ o.dict = none ∧ fp = [] := by
  cases r with | ord h hd => exact ⟨_, _, rfl, h, hd, rfl⟩
theorem sqT_frz {K : PySem.W.Frag} {H : Hp} {a : Addr} {o : Obj} {vs : List V} (h : H a = some (.frz o (.tup vs))) : SqT K H a vs := .inl (.inr ⟨o, h⟩)
theorem Rep.lst_inv {K : PySem.W.Frag} {H : Hp} {ds : List D} {v : V} {fp : List Addr} (r : Rep K H (.lst ds) v fp) : ∃ a vs f, v = .ref a ∧ H a = some (.lst vs) ∧ Reps K H ds vs f ∧ fp = a :: f := by
  cases r with | lst h r => exact ⟨_, _, _, rfl, h, r, rfl⟩
theorem Rep.dK_inv {K : PySem.W.Frag} {H : Hp} {ds : List (Key × D)} {v : V} {fp : List Addr} (r : Rep K H (.dK ds) v fp) :
    ∃ a es f, v = .ref a ∧ Rd H a (.dK es) ∧ ds.map (·.1) = es.map (·.1) ∧ Reps K H (ds.map (·.2)) (es.map (·.2)) f ∧ fp = a :: f := by
  cases r with | dK h hk nd r => exact ⟨_, _, _, rfl, h, hk, r, rfl⟩
theorem Rep.dT_inv {K : PySem.W.Frag} {H : Hp} {ds : List (List Key × D)} {v : V} {fp : List Addr} (r : Rep K H (.dT ds) v fp) :
    ∃ a es f, v = .ref a ∧ Rd H a (.dT es) ∧ ds.map (·.1) = es.map (·.1) ∧ Reps K H (ds.map (·.2)) (es.map (·.2)) f ∧ fp = a :: f := by
  cases r with | dT h hk nd r => exact ⟨_, _, _, rfl, h, hk, r, rfl⟩
theorem Rep.dK_nd {K : PySem.W.Frag} {H : Hp} {ds : List (Key × D)} {v : V} {fp : List Addr} (r : Rep K H (.dK ds) v fp) : (ds.map (·.1)).Nodup := by
  cases r with | dK h hk nd r => exact nd
theorem Rep.dT_nd {K : PySem.W.Frag} {H : Hp} {ds : List (List Key × D)} {v : V} {fp : List Addr} (r : Rep K H (.dT ds) v fp) : (ds.map (·.1)).Nodup := by
  cases r with | dT h hk nd r => exact nd
theorem Rep.scr_inv {K : PySem.W.Frag} {H : Hp} {ns : List Int} {v : V} {fp : List Addr} (r : Rep K H (.scr ns) v fp) : ∃ a, v = .ref a ∧ SqL K H a (ns.map V.int) := by
  cases r with
  | scrF h => exact ⟨_, rfl, .inl h⟩
  | scrK h => refine ⟨_, rfl, ?_⟩; rcases h with h | h
              · rcases h with h | ⟨o, h⟩ <;> cases h
              · exact .inr h

def Res (K : PySem.W.Frag) (o : Bool) (H H' : Hp) (d : D) (v : V) : Prop := match o with
  | true => ∃ f, Fresh K H H' d v f
  | false => ∃ f, Rep K H' d v f
abbrev DR := D → Bool → Prop
theorem Res.rep {K : PySem.W.Frag} {o : Bool} {H H' : Hp} {d : D} {v : V} (r : Res K o H H' d v) : ∃ f, Rep K H' d v f := by
  cases o with
  | true => obtain ⟨f, r⟩ := r; exact ⟨f, r.rep⟩
  | false => exact r
theorem Fresh.ext {K : PySem.W.Frag} {H0 H H' : Hp} {d : D} {v : V} {f : List Addr} (s : Sm K H0 H) (r : Fresh K H H' d v f) : Fresh K H0 H' d v f :=
  ⟨r.rep, r.nd, fun a m => s.ext.free (r.new a m), r.mu⟩
theorem Res.ext {K : PySem.W.Frag} {o : Bool} {H0 H H' : Hp} {d : D} {v : V} (s : Sm K H0 H) (r : Res K o H H' d v) : Res K o H0 H' d v := by
  cases o with
  | true => obtain ⟨f, r⟩ := r; exact ⟨f, r.ext s⟩
  | false => exact r
theorem Res.of_imm {K : PySem.W.Frag} {H H' : Hp} {d : D} {v : V} {f : List Addr} (r : Rep K H' d v f) : Res K d.imm H H' d v := by
  cases e : d.imm with
  | true => exact ⟨[], Fresh.imm e r⟩
  | false => exact ⟨f, r⟩
theorem Res.imm {K : PySem.W.Frag} {H H' : Hp} {d : D} {v : V} {f : List Addr} (e : d.imm = true) (r : Rep K H' d v f) (o : Bool) : Res K o H H' d v := by
  cases o with
  | true => exact ⟨[], Fresh.imm e r⟩
  | false => exact ⟨f, r⟩
theorem Res.weak {K : PySem.W.Frag} {o : Bool} {H H' : Hp} {d : D} {v : V} (r : Res K o H H' d v) : Res K false H H' d v := r.rep
theorem same_upd {H : Hp} {p : Addr} {o : HO} (h : H p = none) : Same H (upd H p o) := fun b x e => by
  rw [upd_ne (ne_of_none e h)]; exact e
theorem res_tup {K : PySem.W.Frag} {H : Hp} {p : Addr} {ds : List D} {vs : List V} {f : List Addr} (h : H p = none) (r : Reps K H ds vs f) : Res K (immL ds) H (upd H p (.tup vs)) (.tup ds) (.ref p) := by
  have := Res.of_imm (K := K) (H := H) (Rep.tup upd_same (r.same (same_upd h)) : Rep K (upd H p (.tup vs)) (.tup ds) (.ref p) f)
  simpa [D.imm] using this
theorem res_lst {K : PySem.W.Frag} {H : Hp} {p : Addr} {ds : List D} {vs : List V} {f : List Addr} (h : H p = none) (r : Reps K H ds vs f) : Res K (immL ds) H (upd H p (.lst vs)) (.lst ds) (.ref p) := by
  have r' := r.same (same_upd (o := .lst vs) h)
  cases e : immL ds with
  | true =>
    have ef := r'.imm e
    subst ef
    exact ⟨[p], .lst upd_same r', List.nodup_cons.mpr ⟨List.not_mem_nil, List.nodup_nil⟩, fun a m => by rw [List.mem_singleton.mp m]; exact nt_of h, fun a m => by rw [List.mem_singleton.mp m, upd_same]; trivial⟩
  | false => exact ⟨_, .lst upd_same r'⟩

/-! ### binary operators -/
abbrev DM := D → D → DR → Prop
def rM (K : PySem.W.Frag) (op : DM) : R2 := fun x y H Q => ∃ da db fa fb R, Rep K H da x fa ∧ Rep K H db y fb ∧ op da db R ∧ ∀ d o v H', R d o → Same H H' → Res K o H H' d v → Q v H'
def DOp (X : Cx) (f : Value → Value → Sem Value) (op : DM) : Prop := OpR X f (rM X.K op)
theorem OpR.weak {X : Cx} {f : Value → Value → Sem Value} {r r' : R2} (h : OpR X f r) (w : ∀ x y H Q, r' x y H Q → r x y H Q) : OpR X f r' :=
  fun pins s σ H x y v u Q I rx ry q => h pins s σ H x y v u Q I rx ry (w x y H Q q)
theorem OpR.fail {X : Cx} {f : Value → Value → Sem Value} : OpR X f (fun _ _ _ _ => False) := fun _ _ _ _ _ _ _ _ _ _ _ _ q => q.elim
theorem DOp.or {X : Cx} {f : Value → Value → Sem Value} {o1 o2 : DM} (h1 : DOp X f o1) (h2 : DOp X f o2) : DOp X f (fun a b R => o1 a b R ∨ o2 a b R) := by
  refine OpR.weak (L2.OpR.or h1 h2) fun x y H Q q => ?_
  obtain ⟨da, db, fa, fb, R, ra, rb, ho, q⟩ := q
  rcases ho with ho | ho
  · exact .inl ⟨da, db, fa, fb, R, ra, rb, ho, q⟩
  · exact .inr ⟨da, db, fa, fb, R, ra, rb, ho, q⟩
theorem DOp.weak {X : Cx} {f : Value → Value → Sem Value} {o1 o2 : DM} (h1 : DOp X f o1) (h : ∀ a b R, o2 a b R → o1 a b R) : DOp X f o2 := by
  refine OpR.weak h1 fun x y H Q q => ?_
  obtain ⟨da, db, fa, fb, R, ra, rb, ho, q⟩ := q
  exact ⟨da, db, fa, fb, R, ra, rb, h _ _ _ ho, q⟩
/-- on two ints -/
def iiM (C : Int → Int → Prop) (g : Int → Int → D) : DM := fun a b R => match a, b with
  | .int i, .int j => C i j ∧ R (g i j) true
  | _, _ => False
theorem iiM_inv {C : Int → Int → Prop} {g : Int → Int → D} {a b : D} {R : DR} (h : iiM C g a b R) : ∃ i j, a = .int i ∧ b = .int j ∧ C i j ∧ R (g i j) true := by
  unfold iiM at h
  split at h
  · exact ⟨_, _, rfl, rfl, h.1, h.2⟩
  · exact h.elim
theorem dop_ii {X : Cx} {f : Value → Value → Sem Value} {C : Int → Int → Prop} {g : Int → Int → V} {g' : Int → Int → D} (h : OpR X f (rI C g)) (hg : ∀ i j K H, Rep K H (g' i j) (g i j) []) (hi : ∀ i j, (g' i j).imm = true) : DOp X f (iiM C g') := by
  refine OpR.weak h fun x y H Q q => ?_
  obtain ⟨da, db, fa, fb, R, ra, rb, ho, q⟩ := q
  obtain ⟨i, j, rfl, rfl, hc, hr⟩ := iiM_inv ho
  exact ⟨i, j, ra.int_inv.1, rb.int_inv.1, hc, q _ _ _ _ hr (Same.refl H) ⟨[], Fresh.imm (hi i j) (hg i j _ _)⟩⟩
theorem rI0_I {g : Int → Int → V} {X : Cx} {f : Value → Value → Sem Value} (h : OpR X f (rI0 g)) : OpR X f (rI (fun _ _ => True) g) :=
  OpR.weak h fun x y H Q ⟨i, j, e1, e2, _, q⟩ => ⟨i, j, e1, e2, q⟩
/-- texts, lists, tuples put together -/
def catM : DM := fun a b R => match a, b with
  | .str a, .str b => a.length + b.length ≤ sizeLine ∧ R (.str (a ++ b)) true
  | .lst a, .lst b => a.length + b.length ≤ sizeLine ∧ R (.lst (a ++ b)) (immL (a ++ b))
  | .tup a, .tup b => a.length + b.length ≤ sizeLine ∧ R (.tup (a ++ b)) (immL (a ++ b))
  | _, _ => False
theorem dop_cat {X : Cx} : DOp X (binaryOp .Add) catM := by
  refine OpR.weak (L2.OpR.or op_add_str (L2.OpR.or op_cat op_catA)) fun x y H Q q => ?_
  obtain ⟨da, db, fa, fb, R, ra, rb, ho, q⟩ := q
  unfold catM at ho
  split at ho
  · obtain ⟨e1, _⟩ := ra.str_inv
    obtain ⟨e2, _⟩ := rb.str_inv
    exact .inl ⟨_, _, e1, e2, ho.1, q _ _ _ _ ho.2 (Same.refl H) ⟨[], Fresh.imm rfl (.str _)⟩⟩
  · obtain ⟨a, vs, f, rfl, ha, r1, rfl⟩ := ra.lst_inv
    obtain ⟨b, us, g, rfl, hb, r2, rfl⟩ := rb.lst_inv
    exact .inr (.inl ⟨_, _, _, _, rfl, rfl, ha, hb, by rw [← r1.len, ← r2.len]; exact ho.1, fun p hp => q _ _ _ _ ho.2 (same_upd hp) (res_lst hp (r1.app r2))⟩)
  · obtain ⟨a, vs, rfl, ha, r1⟩ := ra.tup_inv
    obtain ⟨b, us, rfl, hb, r2⟩ := rb.tup_inv
    refine .inr (.inr ⟨_, _, _, _, rfl, rfl, .of ha, .of hb, by rw [← r1.len, ← r2.len]; exact ho.1, fun e => ?_, fun _ e => ?_, fun _ _ p hp => q _ _ _ _ ho.2 (same_upd hp) (res_tup hp (r1.app r2))⟩)
    · subst e
      have := r1.len
      rename_i ds ds' 
      cases ds with
      | cons _ _ => simp at this
      | nil => exact q _ _ _ _ ho.2 (Same.refl H) (by simpa [D.imm] using Res.of_imm (K := X.K) (H := H) rb)
    · subst e
      have := r2.len
      rename_i ds ds' _
      cases ds' with
      | cons _ _ => simp at this
      | nil => exact q _ _ _ _ ho.2 (Same.refl H) (by simpa [D.imm] using Res.of_imm (K := X.K) (H := H) ra)
  · exact ho.elim
def catO : DM := fun a b R => match a, b with
  | .ord a, .ord b => a.length + b.length ≤ sizeLine ∧ R (.ord (a ++ b)) true
  | _, _ => False
theorem res_ord {K : PySem.W.Frag} {H : Hp} {p : Addr} {o : Obj} {ns : List Int} {vs : List V} (hp : H p = none) (ho : o.dict = none) (e : vs = ns.map V.int) : Res K true H (upd H p (.frz o (.tup vs))) (.ord ns) (.ref p) := by
  subst e; exact ⟨[], Fresh.imm rfl (.ord upd_same ho)⟩
theorem dop_catO {X : Cx} : DOp X (binaryOp .Add) catO := by
  refine OpR.weak op_catF fun x y H Q q => ?_
  obtain ⟨da, db, fa, fb, R, ra, rb, ho, q⟩ := q
  unfold catO at ho
  split at ho
  · rename_i ns ms
    obtain ⟨a, o, rfl, ha, hd, _⟩ := ra.ord_inv
    obtain ⟨b, o2, rfl, hb, hd2, _⟩ := rb.ord_inv
    refine ⟨a, b, _, _, rfl, rfl, sqT_frz ha, sqT_frz hb, by simpa using ho.1, fun e => ?_, fun _ e => ?_, fun _ _ p o hd hp => q _ _ _ _ ho.2 (same_upd hp) (res_ord hp hd (by simp))⟩
    · have e : ns = [] := by simpa using e
      subst e
      exact q _ _ _ _ ho.2 (Same.refl H) ⟨[], Fresh.imm rfl (.ord hb hd2)⟩
    · have e : ms = [] := by simpa using e
      subst e
      exact q _ _ _ _ ho.2 (Same.refl H) ⟨[], Fresh.imm rfl (.ord (by simpa using ha) hd)⟩
  · exact ho.elim
def addM : DM := fun a b R => iiM (fun _ _ => True) (fun i j => .int (i + j)) a b R ∨ (catM a b R ∨ catO a b R)
def subM : DM := iiM (fun _ _ => True) (fun i j => .int (i - j))
def mulM : DM := iiM CMul (fun i j => .int (i * j))
/-- a divisor of at most 240 bits -/
def CDivV (_ j : Int) : Prop := 0 < j ∧ j < 1766847064778384329583297500742918515827483896875618958121606201292619776
theorem CDivV.wide {i j : Int} (h : CDivV i j) : CDivW i j := wide_div (b := 240) h.1 (by have h1 := h.1; have h2 := h.2; have e : (2 : Nat) ^ 240 = 1766847064778384329583297500742918515827483896875618958121606201292619776 := (by decide); omega) (by decide) (by decide)
def fdivM : DM := iiM CDivV (fun i j => .int (i / j))
def modM : DM := iiM (fun _ j => 0 < j) (fun i j => .int (i % j))
def powM : DM := iiM CPow (fun i j => .int (i ^ j.toNat))
section
variable {X : Cx}
theorem d_add : DOp X (binaryOp .Add) addM := DOp.or (dop_ii (rI0_I op_add) (fun _ _ _ _ => .int _) fun _ _ => rfl) (DOp.or dop_cat dop_catO)
theorem d_sub : DOp X (binaryOp .Sub) subM := dop_ii (rI0_I op_sub) (fun _ _ _ _ => .int _) fun _ _ => rfl
theorem d_mul : DOp X (binaryOp .Mult) mulM := dop_ii op_mul (fun _ _ _ _ => .int _) fun _ _ => rfl
theorem d_fdiv : DOp X (binaryOp .FloorDiv) fdivM := dop_ii (OpR.weak op_fdivW fun x y H Q q => by obtain ⟨i, j, e1, e2, hc, h⟩ := q; exact ⟨i, j, e1, e2, CDivV.wide hc, h⟩) (fun _ _ _ _ => .int _) fun _ _ => rfl
theorem d_mod : DOp X (binaryOp .Mod) modM := dop_ii op_mod (fun _ _ _ _ => .int _) fun _ _ => rfl
theorem d_pow : DOp X (binaryOp .Pow) powM := dop_ii op_pow (fun _ _ _ _ => .int _) fun _ _ => rfl
end

/-! ### equality of data -/
mutual
def toPy : D → Option PyData
  | .non => some .none
  | .bl b => some (.bool b)
  | .int i => some (.int i)
  | .str s => some (.str s)
  | .tup xs => (toPyL xs).map .tuple
  | .lst xs => (toPyL xs).map .list
  | .dK _ => none | .dT _ => none | .ins _ _ => none | .scr _ => none | .ptr _ => none
  | .ord ns => some (.tuple (ns.map .int))
  | .fl xs => (toPyL xs).map .list
def toPyL : List D → Option (List PyData)
  | [] => some []
  | d :: ds => match toPy d, toPyL ds with
    | some p, some ps => some (p :: ps)
    | _, _ => none
end
theorem dps_ints {K : PySem.W.Frag} {H : Hp} : ∀ ns : List Int, DpAll K H (ns.map V.int) (ns.map PyData.int)
  | [] => .nil
  | n :: ns => .cons (.int n) (dps_ints ns)
mutual
theorem Rep.dp {K : PySem.W.Frag} {H : Hp} {d : D} {v : V} {fp : List Addr} : Rep K H d v fp → ∀ p, toPy d = some p → Dp K H v p
  | .non, p, e => by simp [toPy] at e; subst e; exact .non
  | .bl b, p, e => by simp [toPy] at e; subst e; exact .bl b
  | .int i, p, e => by simp [toPy] at e; subst e; exact .int i
  | .str s, p, e => by simp [toPy] at e; subst e; exact .str s
  | .tup h r, p, e => by
    simp only [toPy, Option.map_eq_some_iff] at e
    obtain ⟨ps, e1, rfl⟩ := e
    exact .tup (.of h) (r.dps ps e1)
  | .lst h r, p, e => by
    simp only [toPy, Option.map_eq_some_iff] at e
    obtain ⟨ps, e1, rfl⟩ := e
    exact .lst (.of h) (r.dps ps e1)
  | .dK _ _ _ _, p, e => by simp [toPy] at e
  | .dT _ _ _ _, p, e => by simp [toPy] at e
  | .ins _ _ _ _, p, e => by simp [toPy] at e
  | .scrF _, p, e => by simp [toPy] at e
  | .scrK _, p, e => by simp [toPy] at e
  | .ptr _, p, e => by simp [toPy] at e
  | .ord h hd, p, e => by simp [toPy] at e; subst e; exact .tup (sqT_frz h) (dps_ints _)
  | .fl h r, p, e => by
    simp only [toPy, Option.map_eq_some_iff] at e
    obtain ⟨ps, e1, rfl⟩ := e
    exact .lst (.inl (.inr ⟨_, h⟩)) (r.dps ps e1)
theorem Reps.dps {K : PySem.W.Frag} {H : Hp} {ds : List D} {vs : List V} {fp : List Addr} : Reps K H ds vs fp → ∀ ps, toPyL ds = some ps → DpAll K H vs ps
  | .nil, ps, e => by simp [toPyL] at e; subst e; exact .nil
  | .cons (d := d) (ds := ds) h t, ps, e => by
    simp only [toPyL] at e
    cases e1 : toPy d with
    | none => rw [e1] at e; simp at e
    | some p =>
      cases e2 : toPyL ds with
      | none => rw [e1, e2] at e; simp at e
      | some q =>
        rw [e1, e2] at e
        simp at e; subst e
        exact .cons (h.dp p e1) (t.dps q e2)
end
def intEq (i : Int) : D → Bool
  | .int j => i == j
  | .bl b => i == (if b then 1 else 0)
  | _ => false
def eqInt (i : Int) : D → Bool
  | .int j => j == i
  | .bl b => (if b then 1 else 0) == i
  | _ => false
def eqI : List Int → List D → Bool
  | [], [] => true
  | x :: xs, d :: ds => intEq x d && eqI xs ds
  | _, _ => false
def eqJ : List D → List Int → Bool
  | [], [] => true
  | d :: ds, x :: xs => eqInt x d && eqJ ds xs
  | _, _ => false
mutual
def D.eqv : D → D → Bool
  | .non, .non => true
  | .bl a, .bl b => a == b
  | .bl a, .int j => (if a then 1 else 0) == j
  | .int i, .bl b => i == (if b then 1 else 0)
  | .int i, .int j => i == j
  | .str x, .str y => x == y
  | .lst xs, .lst ys => eqvL xs ys
  | .tup xs, .tup ys => eqvL xs ys
  | .ord xs, .ord ys => decide (xs = ys)
  | .ord xs, .tup ys => eqI xs ys
  | .tup xs, .ord ys => eqJ xs ys
  | .fl xs, .fl ys => eqvL xs ys
  | .fl xs, .lst ys => eqvL xs ys
  | .lst xs, .fl ys => eqvL xs ys
  | _, _ => false
def eqvL : List D → List D → Bool
  | [], [] => true
  | x :: xs, y :: ys => x.eqv y && eqvL xs ys
  | _, _ => false
end
theorem eqvAll_ints : ∀ xs ys : List Int, PyData.eqvAll (xs.map PyData.int) (ys.map PyData.int) = decide (xs = ys)
  | [], [] => rfl
  | [], y :: ys => by simp [PyData.eqvAll]
  | x :: xs, [] => by simp [PyData.eqvAll]
  | x :: xs, y :: ys => by
    simp only [List.map_cons, PyData.eqvAll, eqvAll_ints xs ys, PyData.eqv]
    by_cases h : x = y <;> simp [h]
theorem intEq_py {i : Int} : ∀ {d : D} {q : PyData}, toPy d = some q → PyData.eqv (.int i) q = intEq i d := by
  intro d q h
  cases d <;> simp only [toPy, Option.some.injEq, Option.map_eq_some_iff, reduceCtorEq] at h <;> first
    | (subst h; simp only [PyData.eqv, intEq]; done)
    | (obtain ⟨ps, e1, rfl⟩ := h; simp only [PyData.eqv, intEq])
theorem eqInt_py {i : Int} : ∀ {d : D} {q : PyData}, toPy d = some q → PyData.eqv q (.int i) = eqInt i d := by
  intro d q h
  cases d <;> simp only [toPy, Option.some.injEq, Option.map_eq_some_iff, reduceCtorEq] at h <;> first
    | (subst h; simp only [PyData.eqv, eqInt]; done)
    | (obtain ⟨ps, e1, rfl⟩ := h; simp only [PyData.eqv, eqInt])
theorem eqI_py : ∀ (xs : List Int) (ds : List D) (qs : List PyData), toPyL ds = some qs → PyData.eqvAll (xs.map PyData.int) qs = eqI xs ds
  | [], [], qs, h => by simp only [toPyL, Option.some.injEq] at h; subst h; rfl
  | x :: xs, [], qs, h => by simp only [toPyL, Option.some.injEq] at h; subst h; rfl
  | [], d :: ds, qs, h => by
    simp only [toPyL] at h
    split at h
    · simp only [Option.some.injEq] at h; subst h; rfl
    · cases h
  | x :: xs, d :: ds, qs, h => by
    simp only [toPyL] at h
    split at h
    · rename_i p1 p2 e1 e2
      simp only [Option.some.injEq] at h; subst h
      simp only [List.map_cons, PyData.eqvAll, eqI, intEq_py e1, eqI_py xs ds p2 e2]
    · cases h
theorem eqJ_py : ∀ (ds : List D) (xs : List Int) (qs : List PyData), toPyL ds = some qs → PyData.eqvAll qs (xs.map PyData.int) = eqJ ds xs
  | [], [], qs, h => by simp only [toPyL, Option.some.injEq] at h; subst h; rfl
  | [], x :: xs, qs, h => by simp only [toPyL, Option.some.injEq] at h; subst h; rfl
  | d :: ds, [], qs, h => by
    simp only [toPyL] at h
    split at h
    · simp only [Option.some.injEq] at h; subst h; rfl
    · cases h
  | d :: ds, x :: xs, qs, h => by
    simp only [toPyL] at h
    split at h
    · rename_i p1 p2 e1 e2
      simp only [Option.some.injEq] at h; subst h
      simp only [List.map_cons, PyData.eqvAll, eqJ, eqInt_py e1, eqJ_py ds xs p2 e2]
    · cases h
mutual
theorem eqv_py : ∀ (d e : D) (p q : PyData), toPy d = some p → toPy e = some q → PyData.eqv p q = d.eqv e
  | d, e, p, q, h1, h2 => by
    cases d <;> cases e <;> simp only [toPy, Option.some.injEq, Option.map_eq_some_iff, reduceCtorEq] at h1 h2 <;> (first | (subst h1; subst h2; simp only [PyData.eqv, D.eqv]; done) | skip)
    all_goals first
      | (subst h1; subst h2; simp only [PyData.eqv, D.eqv, eqvAll_ints]; done)
      | (obtain ⟨qs, e2, rfl⟩ := h2; subst h1; simp only [PyData.eqv, D.eqv]; exact eqI_py _ _ qs e2)
      | (obtain ⟨qs, e2, rfl⟩ := h1; subst h2; simp only [PyData.eqv, D.eqv]; exact eqJ_py _ _ qs e2)
      | (obtain ⟨ps, e1, rfl⟩ := h1; obtain ⟨qs, e2, rfl⟩ := h2; simp only [PyData.eqv, D.eqv]; done)
      | (obtain ⟨ps, e1, rfl⟩ := h1; obtain ⟨qs, e2, rfl⟩ := h2; simp only [PyData.eqv, D.eqv]; exact eqv_pyL _ _ ps qs e1 e2)
      | (obtain ⟨ps, e1, rfl⟩ := h1; subst h2; simp only [PyData.eqv, D.eqv]; done)
      | (obtain ⟨ps, e1, rfl⟩ := h2; subst h1; simp only [PyData.eqv, D.eqv]; done)
theorem eqv_pyL : ∀ (ds es : List D) (ps qs : List PyData), toPyL ds = some ps → toPyL es = some qs → PyData.eqvAll ps qs = eqvL ds es
  | [], [], ps, qs, h1, h2 => by
    simp only [toPyL, Option.some.injEq] at h1 h2; subst h1; subst h2; simp only [PyData.eqvAll, eqvL]
  | [], e :: es, ps, qs, h1, h2 => by
    simp only [toPyL, Option.some.injEq] at h1; subst h1
    simp only [toPyL] at h2
    split at h2
    · simp only [Option.some.injEq] at h2; subst h2; simp only [PyData.eqvAll, eqvL]
    · cases h2
  | d :: ds, [], ps, qs, h1, h2 => by
    simp only [toPyL, Option.some.injEq] at h2; subst h2
    simp only [toPyL] at h1
    split at h1
    · simp only [Option.some.injEq] at h1; subst h1; simp only [PyData.eqvAll, eqvL]
    · cases h1
  | d :: ds, e :: es, ps, qs, h1, h2 => by
    simp only [toPyL] at h1 h2
    split at h1
    · rename_i p1 p2 e1 e2
      split at h2
      · rename_i q1 q2 e3 e4
        simp only [Option.some.injEq] at h1 h2; subst h1; subst h2
        simp only [PyData.eqvAll, eqvL]
        rw [eqv_py d e p1 q1 e1 e3, eqv_pyL ds es p2 q2 e2 e4]
      · cases h2
    · cases h1
end
/-- data that may be compared: no dict, at most so deep -/
def D.shp : Nat → D → Bool
  | _, .non => true | _, .bl _ => true | _, .int _ => true
  | _, .str s => PyData.strOk s
  | n + 1, .tup xs => xs.all (D.shp n)
  | n + 1, .lst xs => xs.all (D.shp n)
  | _ + 1, .ord _ => true
  | n + 1, .fl xs => xs.all (D.shp n)
  | _, _ => false
theorem ints_lay : ∀ ns : List Int, PyData.canLayAll0 (ns.map PyData.int) = true
  | [] => by simp [PyData.canLayAll0]
  | n :: ns => by simp [PyData.canLayAll0, PyData.canLay0, ints_lay ns]
theorem ints_depth : ∀ ns : List Int, PyData.depthAll (ns.map PyData.int) = 0
  | [] => by simp [PyData.depthAll]
  | n :: ns => by simp [PyData.depthAll, PyData.depth, ints_depth ns]
theorem D.shp_py : ∀ (n : Nat) (d : D), d.shp n = true → ∃ p, toPy d = some p ∧ p.canLay0 = true ∧ p.depth ≤ n := by
  intro n
  induction n with
  | zero =>
    intro d h
    cases d <;> simp [D.shp] at h
    · exact ⟨_, rfl, rfl, Nat.le_refl _⟩
    · exact ⟨_, rfl, rfl, Nat.le_refl _⟩
    · exact ⟨_, rfl, rfl, Nat.le_refl _⟩
    · exact ⟨_, rfl, h, Nat.le_refl _⟩
  | succ n ih =>
    have lists : ∀ xs : List D, xs.all (D.shp n) = true → ∃ ps, toPyL xs = some ps ∧ PyData.canLayAll0 ps = true ∧ PyData.depthAll ps ≤ n := by
      intro xs
      induction xs with
      | nil => intro _; exact ⟨[], by simp [toPyL], by simp [PyData.canLayAll0], by simp [PyData.depthAll]⟩
      | cons x xs ih2 =>
        intro h
        simp only [List.all_cons, Bool.and_eq_true] at h
        obtain ⟨p, e1, c1, d1⟩ := ih x h.1
        obtain ⟨ps, e2, c2, d2⟩ := ih2 h.2
        exact ⟨p :: ps, by simp [toPyL, e1, e2], by simp [PyData.canLayAll0, c1, c2], by simp only [PyData.depthAll]; omega⟩
    intro d h
    cases d <;> simp only [D.shp, Bool.false_eq_true] at h
    · exact ⟨_, rfl, rfl, Nat.zero_le _⟩
    · exact ⟨_, rfl, rfl, Nat.zero_le _⟩
    · exact ⟨_, rfl, rfl, Nat.zero_le _⟩
    · exact ⟨_, rfl, h, Nat.zero_le _⟩
    · obtain ⟨ps, e, c, dd⟩ := lists _ h
      exact ⟨.tuple ps, by simp [toPy, e], by simpa only [PyData.canLay0] using c, by simp only [PyData.depth]; omega⟩
    · obtain ⟨ps, e, c, dd⟩ := lists _ h
      exact ⟨.list ps, by simp [toPy, e], by simpa only [PyData.canLay0] using c, by simp only [PyData.depth]; omega⟩
    · exact ⟨.tuple (List.map PyData.int ‹List Int›), by simp [toPy], by simpa only [PyData.canLay0] using (ints_lay ‹List Int›), by simp only [PyData.depth]; have := ints_depth ‹List Int›; omega⟩
    · obtain ⟨ps, e, c, dd⟩ := lists _ h
      exact ⟨.list ps, by simp [toPy, e], by simpa only [PyData.canLay0] using c, by simp only [PyData.depth]; omega⟩
theorem D.shp_shaped {d : D} (h : d.shp 9 = true) : ∃ p, toPy d = some p ∧ SeqAt.shaped p = true ∧ p.canLay0 = true ∧ p.depth ≤ 9 := by
  obtain ⟨p, e, c, dd⟩ := D.shp_py 9 d h
  exact ⟨p, e, by unfold SeqAt.shaped; rw [c, decide_eq_true (by omega)]; rfl, c, dd⟩
def eqM : DM := fun a b R => a.shp 9 = true ∧ b.shp 9 = true ∧ R (.bl (a.eqv b)) true
def neM : DM := fun a b R => a.shp 9 = true ∧ b.shp 9 = true ∧ R (.bl (!a.eqv b)) true
section
variable {X : Cx}
theorem d_eq (hu : X.A.units + 65 < cLine) : DOp X (compareOp .Eq) eqM := by
  refine OpR.weak (op_eqD (by omega)) fun x y H Q q => ?_
  obtain ⟨da, db, fa, fb, R, ra, rb, ⟨s1, s2, hr⟩, q⟩ := q
  obtain ⟨p1, e1, t1, _⟩ := D.shp_shaped s1
  obtain ⟨p2, e2, t2, _⟩ := D.shp_shaped s2
  exact ⟨p1, p2, ra.dp _ e1, rb.dp _ e2, t1, t2, by rw [eqv_py _ _ _ _ e1 e2]; exact q _ _ _ _ hr (Same.refl H) ⟨[], Fresh.imm rfl (.bl _)⟩⟩
theorem d_ne (hu : X.A.units + 65 < cLine) : DOp X (compareOp .NotEq) neM := by
  refine OpR.weak (op_neD (by omega)) fun x y H Q q => ?_
  obtain ⟨da, db, fa, fb, R, ra, rb, ⟨s1, s2, hr⟩, q⟩ := q
  obtain ⟨p1, e1, t1, _⟩ := D.shp_shaped s1
  obtain ⟨p2, e2, t2, _⟩ := D.shp_shaped s2
  exact ⟨p1, p2, ra.dp _ e1, rb.dp _ e2, t1, t2, by rw [eqv_py _ _ _ _ e1 e2]; exact q _ _ _ _ hr (Same.refl H) ⟨[], Fresh.imm rfl (.bl _)⟩⟩
def D.isN : D → Bool
  | .non => true
  | _ => false
def isNM : DM := fun a b R => b.isN = true ∧ R (.bl a.isN) true
def notNM : DM := fun a b R => b.isN = true ∧ R (.bl (!a.isN)) true
end
end DL

namespace DL
open PySem PySem.Spec PyProof.Rows L2
set_option linter.all false
set_option Elab.async false
set_option maxRecDepth 100000
set_option maxHeartbeats 1000000

/-! ## D3: comparisons, membership, subscripts, slices, built-ins, over data -/
section
variable {X : Cx}
def ltM0 : DM := iiM (fun _ _ => True) (fun i j => .bl (decide (i < j)))
def leM : DM := iiM (fun _ _ => True) (fun i j => .bl (decide (i ≤ j)))
def gtM : DM := iiM (fun _ _ => True) (fun i j => .bl (decide (j < i)))
def geM : DM := iiM (fun _ _ => True) (fun i j => .bl (decide (j ≤ i)))
theorem d_lt0 : DOp X (compareOp .Lt) ltM0 := dop_ii (rI0_I op_lt) (fun _ _ _ _ => .bl _) fun _ _ => rfl
theorem d_le : DOp X (compareOp .LtE) leM := dop_ii (rI0_I op_le) (fun _ _ _ _ => .bl _) fun _ _ => rfl
theorem d_gt : DOp X (compareOp .Gt) gtM := dop_ii (rI0_I op_gt) (fun _ _ _ _ => .bl _) fun _ _ => rfl
theorem d_ge : DOp X (compareOp .GtE) geM := dop_ii (rI0_I op_ge) (fun _ _ _ _ => .bl _) fun _ _ => rfl
end
def toInts : List D → Option (List Int)
  | [] => some []
  | .int i :: ds => (toInts ds).map (i :: ·)
  | _ => none
theorem toInts_eq : ∀ {ds : List D} {ns : List Int}, toInts ds = some ns → ds = ns.map .int
  | [], ns, h => by simp [toInts] at h; subst h; rfl
  | .int i :: ds, ns, h => by
    simp only [toInts, Option.map_eq_some_iff] at h
    obtain ⟨ms, e, rfl⟩ := h
    rw [toInts_eq e]; rfl
  | .non :: _, _, h => by simp [toInts] at h
  | .bl _ :: _, _, h => by simp [toInts] at h
  | .str _ :: _, _, h => by simp [toInts] at h
  | .tup _ :: _, _, h => by simp [toInts] at h
  | .lst _ :: _, _, h => by simp [toInts] at h
  | .dK _ :: _, _, h => by simp [toInts] at h
  | .dT _ :: _, _, h => by simp [toInts] at h
  | .ins _ _ :: _, _, h => by simp [toInts] at h
  | .scr _ :: _, _, h => by simp [toInts] at h
  | .ord _ :: _, _, h => by simp [toInts] at h
theorem toInts_map (ns : List Int) : toInts (ns.map .int) = some ns := by
  induction ns with
  | nil => rfl
  | cons n ns ih => simp [toInts, ih]
def toBls : List D → Option (List Bool)
  | [] => some []
  | .bl i :: ds => (toBls ds).map (i :: ·)
  | _ => none
theorem toBls_eq : ∀ {ds : List D} {ns : List Bool}, toBls ds = some ns → ds = ns.map .bl
  | [], ns, h => by simp [toBls] at h; subst h; rfl
  | .bl i :: ds, ns, h => by
    simp only [toBls, Option.map_eq_some_iff] at h
    obtain ⟨ms, e, rfl⟩ := h
    rw [toBls_eq e]; rfl
  | .non :: _, _, h => by simp [toBls] at h
  | .int _ :: _, _, h => by simp [toBls] at h
  | .str _ :: _, _, h => by simp [toBls] at h
  | .tup _ :: _, _, h => by simp [toBls] at h
  | .lst _ :: _, _, h => by simp [toBls] at h
  | .dK _ :: _, _, h => by simp [toBls] at h
  | .dT _ :: _, _, h => by simp [toBls] at h
  | .ins _ _ :: _, _, h => by simp [toBls] at h
  | .scr _ :: _, _, h => by simp [toBls] at h
  | .ord _ :: _, _, h => by simp [toBls] at h
theorem toBls_map (ns : List Bool) : toBls (ns.map .bl) = some ns := by
  induction ns with
  | nil => rfl
  | cons n ns ih => simp [toBls, ih]
def ltTM : DM := fun a b R => match a, b with
  | .tup x, .tup y => ∃ ms ns, toInts x = some ms ∧ toInts y = some ns ∧ R (.bl (HT.lexLt ms ns)) true
  | _, _ => False
theorem rep_tupInts {K : PySem.W.Frag} {H : Hp} {ds : List D} {ns : List Int} {v : V} {fp : List Addr} (r : Rep K H (.tup ds) v fp) (h : toInts ds = some ns) : ∃ a, v = .ref a ∧ H a = some (.tup (ns.map V.int)) := by
  obtain ⟨a, vs, rfl, ha, r1⟩ := r.tup_inv
  rw [toInts_eq h] at r1
  rw [r1.ints] at ha
  exact ⟨a, rfl, ha⟩
section
variable {X : Cx}
theorem d_ltT (hu : X.A.units + 65 < cLine) : DOp X (compareOp .Lt) ltTM := by
  refine OpR.weak (op_ltT (by omega)) fun x y H Q q => ?_
  obtain ⟨da, db, fa, fb, R, ra, rb, ho, q⟩ := q
  unfold ltTM at ho
  split at ho
  · obtain ⟨ms, ns, h1, h2, hr⟩ := ho
    obtain ⟨a, rfl, ha⟩ := rep_tupInts ra h1
    obtain ⟨b, rfl, hb⟩ := rep_tupInts rb h2
    exact ⟨_, _, _, _, rfl, rfl, .of ha, .of hb, q _ _ _ _ hr (Same.refl H) ⟨[], Fresh.imm rfl (.bl _)⟩⟩
  · exact ho.elim
def ltM : DM := fun a b R => ltM0 a b R ∨ ltTM a b R
theorem d_lt (hu : X.A.units + 65 < cLine) : DOp X (compareOp .Lt) ltM := DOp.or d_lt0 (d_ltT hu)
end

/-! ### dicts -/
section
variable {κ α β : Type} [DecidableEq κ]
def alook (kvs : List (κ × α)) (k : κ) : Option α := (kvs.find? fun kv => decide (kv.1 = k)).map (·.2)
def aput (kvs : List (κ × α)) (k : κ) (v : α) : List (κ × α) :=
  if (kvs.any fun kv => decide (kv.1 = k)) = true then kvs.map (fun kv => if kv.1 = k then (kv.1, v) else kv) else kvs ++ [(k, v)]
def adrop (kvs : List (κ × α)) (k : κ) : List (κ × α) := kvs.filter fun kv => decide (kv.1 ≠ k)
theorem alook_cons (p : κ × α) (r : List (κ × α)) (k : κ) : alook (p :: r) k = if p.1 = k then some p.2 else alook r k := by
  unfold alook
  rw [List.find?_cons]
  by_cases h : p.1 = k <;> simp [h]
end
def D.key : D → Option Key
  | .int i => some (.inl i)
  | .str s => some (.inr s)
  | _ => none
def toKeys : List D → Option (List Key)
  | [] => some []
  | d :: ds => match d.key, toKeys ds with
    | some k, some ks => some (k :: ks)
    | _, _ => none
def kD : Key → D
  | .inl i => .int i
  | .inr s => .str s
theorem rep_kD (K : PySem.W.Frag) (H : Hp) (k : Key) : Rep K H (kD k) (kV k) [] := by
  cases k with
  | inl i => exact .int i
  | inr s => exact .str s
theorem kD_imm (k : Key) : (kD k).imm = true := by cases k <;> rfl
theorem key_inv {K : PySem.W.Frag} {H : Hp} {d : D} {k : Key} {v : V} {f : List Addr} (r : Rep K H d v f) (h : d.key = some k) : v = kV k := by
  cases r <;> simp [D.key] at h <;> subst h <;> rfl
theorem keys_inv {K : PySem.W.Frag} {H : Hp} : ∀ {ds : List D} {ks : List Key} {vs : List V} {f : List Addr}, Reps K H ds vs f → toKeys ds = some ks → vs = ks.map kV
  | [], ks, vs, f, r, h => by simp [toKeys] at h; subst h; cases r; rfl
  | d :: ds, ks, vs, f, r, h => by
    simp only [toKeys] at h
    cases r with
    | cons h1 t =>
      split at h
      · rename_i k ks' e1 e2
        simp at h; subst h
        rw [key_inv h1 e1, keys_inv t e2]; rfl
      · cases h
theorem reps_kD (K : PySem.W.Frag) (H : Hp) : ∀ ks : List Key, Reps K H (ks.map kD) (ks.map kV) []
  | [] => .nil
  | k :: ks => .cons (f := []) (rep_kD K H k) (reps_kD K H ks)
theorem immL_kD (ks : List Key) : immL (ks.map kD) = true := by
  rw [immL_iff]
  intro d h
  obtain ⟨k, _, rfl⟩ := List.mem_map.mp h
  exact kD_imm k
/-- a value of a dict -/
theorem look_rel {κ : Type} [DecidableEq κ] {K : PySem.W.Frag} {H : Hp} (k : κ) : ∀ {kvs : List (κ × D)} {es : List (κ × V)} {f : List Addr}, kvs.map (·.1) = es.map (·.1) → Reps K H (kvs.map (·.2)) (es.map (·.2)) f →
    (alook kvs k = none ∧ valV es k = none) ∨ ∃ d v g, alook kvs k = some d ∧ valV es k = some v ∧ Rep K H d v g ∧ ∀ a ∈ g, a ∈ f
  | [], [], _, _, _ => .inl ⟨rfl, valV_nil⟩
  | [], _ :: _, _, h, _ => by simp at h
  | _ :: _, [], _, h, _ => by simp at h
  | (k1, d) :: kvs, (k2, v) :: es, f, h, r => by
    simp only [List.map_cons, List.cons.injEq] at h
    obtain ⟨rfl, h2⟩ := h
    cases r with
    | cons r1 r2 =>
      by_cases e : k1 = k
      · refine .inr ⟨d, v, _, by rw [alook_cons, if_pos e], valV_pos e, r1, fun a m => List.mem_append_left _ m⟩
      · rcases look_rel k h2 r2 with ⟨a, b⟩ | ⟨d', v', g, a, b, c, s⟩
        · exact .inl ⟨by rw [alook_cons, if_neg e]; exact a, by rw [valV_neg e]; exact b⟩
        · exact .inr ⟨d', v', g, by rw [alook_cons, if_neg e]; exact a, by rw [valV_neg e]; exact b, c, fun a m => List.mem_append_right _ (s a m)⟩
/-- what a dict has at a key, over data -/
def lookM : D → D → (Option D → Prop) → Prop := fun a b R => match a, b with
  | .dK kvs, b => ∃ k, b.key = some k ∧ R (alook kvs k)
  | .dT kvs, .tup ks => ∃ k, toKeys ks = some k ∧ R (alook kvs k)
  | _, _ => False
theorem lookM_get {K : PySem.W.Frag} {H : Hp} {da db : D} {x y : V} {fa fb : List Addr} {R : Option D → Prop} (ra : Rep K H da x fa) (rb : Rep K H db y fb) (h : lookM da db R) :
    ∃ a r, x = .ref a ∧ DGet H a y r ∧ ((R none ∧ r = none) ∨ ∃ d v g, R (some d) ∧ r = some v ∧ Rep K H d v g ∧ ∀ a ∈ g, a ∈ fa) := by
  unfold lookM at h
  split at h
  · obtain ⟨k, e, hr⟩ := h
    obtain ⟨a, es, f, rfl, hd, hk, r, rfl⟩ := ra.dK_inv
    have ey := key_inv rb e
    subst ey
    refine ⟨a, valV es k, rfl, .inl ⟨es, k, hd, rfl, rfl⟩, ?_⟩
    rcases look_rel k hk r with ⟨e1, e2⟩ | ⟨d, v, g, e1, e2, rd, s⟩
    · rw [e1] at hr; exact .inl ⟨hr, e2⟩
    · rw [e1] at hr; exact .inr ⟨d, v, g, hr, e2, rd, fun a m => List.mem_cons_of_mem _ (s a m)⟩
  · obtain ⟨k, e, hr⟩ := h
    obtain ⟨a, es, f, rfl, hd, hk, r, rfl⟩ := ra.dT_inv
    obtain ⟨b, vs, rfl, hb, r2⟩ := rb.tup_inv
    rw [keys_inv r2 e] at hb
    refine ⟨a, valV es k, rfl, .inr ⟨es, k, b, hd, rfl, hb, rfl⟩, ?_⟩
    rcases look_rel k hk r with ⟨e1, e2⟩ | ⟨d, v, g, e1, e2, rd, s⟩
    · rw [e1] at hr; exact .inl ⟨hr, e2⟩
    · rw [e1] at hr; exact .inr ⟨d, v, g, hr, e2, rd, fun a m => List.mem_cons_of_mem _ (s a m)⟩
  · exact h.elim

/-! ### in -/
def inM (neg : Bool) : DM := fun a b R => match b with
  | .lst xs => a.shp 9 = true ∧ xs.all (D.shp 8) = true ∧ R (.bl (xor neg (xs.any fun z => z.eqv a))) true
  | .tup xs => a.shp 9 = true ∧ xs.all (D.shp 8) = true ∧ R (.bl (xor neg (xs.any fun z => z.eqv a))) true
  | .ord ns => ∃ i, a = .int i ∧ R (.bl (xor neg (decide (i ∈ ns)))) true
  | d => lookM d a fun o => R (.bl (xor neg o.isSome)) true
theorem any_ints (i : Int) : ∀ ns : List Int, ((ns.map PyData.int).any fun z => PyData.eqv z (.int i)) = decide (i ∈ ns)
  | [] => rfl
  | n :: ns => by
    simp only [List.map_cons, List.any_cons, any_ints i ns, PyData.eqv]
    by_cases h : n = i
    · simp [h]
    · have h' : ¬ i = n := fun e => h e.symm
      simp [h, h']
theorem any_eqv {a : D} {p : PyData} (e : toPy a = some p) : ∀ {ds : List D} {ps : List PyData}, toPyL ds = some ps → (ps.any fun z => PyData.eqv z p) = ds.any fun z => z.eqv a
  | [], ps, h => by simp [toPyL] at h; subst h; rfl
  | d :: ds, ps, h => by
    simp only [toPyL] at h
    split at h
    · rename_i q qs e1 e2
      simp at h; subst h
      simp only [List.any_cons]
      rw [any_eqv e e2, eqv_py _ _ _ _ e1 e]
    · cases h
section
variable {X : Cx}
theorem op_inSeq (hu : X.A.units + 65 < cLine) (neg : Bool) : OpR X (compareOp (if neg then .NotIn else .In)) (fun x y H Q => ∃ d ds, Dp X.K H x d ∧ (Dp X.K H y (.list ds) ∨ Dp X.K H y (.tuple ds)) ∧ SeqAt.shaped d = true ∧ PyData.canLayAll0 ds = true ∧ PyData.depthAll ds ≤ 60 ∧ Q (.bl (xor neg (ds.any fun z => PyData.eqv z d))) H) := by
  intro pins s σ H x y v u Q I rx ry h
  obtain ⟨d, ds, hd, he, sd, se, dd, q⟩ := h
  obtain ⟨as, r1⟩ := Dp.reads I d x v hd rx
  have hm : X.A.units + 1 + min (PyData.depthAll ds) d.depth < cLine := by have := Nat.min_le_left (PyData.depthAll ds) d.depth; omega
  rcases he with he | he
  · obtain ⟨bs, r2⟩ := Dp.reads I (.list ds) y u he ry
    cases neg with
    | true => exact SeqAt.notIn_list_reads r2 r1 se (SeqAt.canLay_of_shaped sd) hm ⟨.bl _, H, I, rfl, by simpa using q⟩
    | false => exact SeqAt.in_list_reads r2 r1 se (SeqAt.canLay_of_shaped sd) hm ⟨.bl _, H, I, rfl, by simpa using q⟩
  · obtain ⟨bs, r2⟩ := Dp.reads I (.tuple ds) y u he ry
    cases neg with
    | true => exact SeqAt.notIn_tuple_reads r2 r1 se (SeqAt.canLay_of_shaped sd) hm ⟨.bl _, H, I, rfl, by simpa using q⟩
    | false => exact SeqAt.in_tuple_reads r2 r1 se (SeqAt.canLay_of_shaped sd) hm ⟨.bl _, H, I, rfl, by simpa using q⟩
theorem op_inDict (hu : X.A.units + 65 < cLine) (neg : Bool) : OpR X (compareOp (if neg then .NotIn else .In)) (fun y x H Q => ∃ a o, x = .ref a ∧ DGet H a y o ∧ Q (.bl (xor neg o.isSome)) H) := by
  intro pins s σ H y x u v Q I ry rx h
  obtain ⟨a, o, rfl, g, q⟩ := h
  cases rx
  cases neg with
  | true => exact d_notIn (by omega) I g ry fun s3 I3 => ⟨.bl _, H, I3, rfl, by simpa using q⟩
  | false => exact d_in (by omega) I g ry fun s3 I3 => ⟨.bl _, H, I3, rfl, by simpa using q⟩
theorem shp_list {xs : List D} (h : xs.all (D.shp 8) = true) : ∃ ps, toPyL xs = some ps ∧ PyData.canLayAll0 ps = true ∧ PyData.depthAll ps ≤ 60 := by
  obtain ⟨p, e, c, d⟩ := D.shp_py 9 (.lst xs) (by simpa [D.shp] using h)
  simp only [toPy, Option.map_eq_some_iff] at e
  obtain ⟨ps, e1, rfl⟩ := e
  exact ⟨ps, e1, by simpa only [PyData.canLay0] using c, by simp only [PyData.depth] at d; omega⟩
theorem d_in' (hu : X.A.units + 65 < cLine) (neg : Bool) : DOp X (compareOp (if neg then .NotIn else .In)) (inM neg) := by
  refine OpR.weak (L2.OpR.or (op_inSeq hu neg) (op_inDict hu neg)) fun x y H Q q => ?_
  obtain ⟨da, db, fa, fb, R, ra, rb, ho, q⟩ := q
  unfold inM at ho
  split at ho
  · obtain ⟨s1, s2, hr⟩ := ho
    obtain ⟨p, e1, t1, _⟩ := D.shp_shaped s1
    obtain ⟨ps, e2, c2, d2⟩ := shp_list s2
    exact .inl ⟨p, ps, ra.dp _ e1, .inl (rb.dp (.list ps) (by simp [toPy, e2])), t1, c2, d2, by rw [any_eqv e1 e2]; exact q _ _ _ _ hr (Same.refl H) ⟨[], Fresh.imm rfl (.bl _)⟩⟩
  · obtain ⟨s1, s2, hr⟩ := ho
    obtain ⟨p, e1, t1, _⟩ := D.shp_shaped s1
    obtain ⟨ps, e2, c2, d2⟩ := shp_list s2
    exact .inl ⟨p, ps, ra.dp _ e1, .inr (rb.dp (.tuple ps) (by simp [toPy, e2])), t1, c2, d2, by rw [any_eqv e1 e2]; exact q _ _ _ _ hr (Same.refl H) ⟨[], Fresh.imm rfl (.bl _)⟩⟩
  · obtain ⟨i, rfl, hr⟩ := ho
    rename_i ns
    have e : ((ns.map PyData.int).any fun z => PyData.eqv z (.int i)) = decide (i ∈ ns) := any_ints i ns
    exact .inl ⟨.int i, _, ra.dp _ (by simp [toPy]), .inr (rb.dp (.tuple (ns.map .int)) (by simp [toPy])), rfl, ints_lay ns, by rw [ints_depth]; omega, by rw [e]; exact q _ _ _ _ hr (Same.refl H) ⟨[], Fresh.imm rfl (.bl _)⟩⟩
  · obtain ⟨a, r, rfl, g, hr⟩ := lookM_get rb ra ho
    refine .inr ⟨a, r, rfl, g, ?_⟩
    rcases hr with ⟨hr, rfl⟩ | ⟨d, v, g, hr, rfl, _, _⟩
    · exact q _ _ _ _ hr (Same.refl H) ⟨[], Fresh.imm rfl (.bl _)⟩
    · exact q _ _ _ _ hr (Same.refl H) ⟨[], Fresh.imm rfl (.bl _)⟩
theorem d_in (hu : X.A.units + 65 < cLine) : DOp X (compareOp .In) (inM false) := d_in' hu false
end

/-! ### subscripts -/
def ixM : DM := fun a b R => match a, b with
  | .lst xs, .int i => ∃ d, atI xs i = some d ∧ R d d.imm
  | .tup xs, .int i => ∃ d, atI xs i = some d ∧ R d d.imm
  | .scr ns, .int i => ∃ n, atI ns i = some n ∧ R (.int n) true
  | .str s, .int i => ∃ c, s.length ≤ sizeLine ∧ atI s.cps.toList i = some c ∧ R (.str ⟨#[c]⟩) true
  | .ord ns, .int i => ∃ n, atI ns i = some n ∧ R (.int n) true
  | a, b => lookM a b fun o => ∃ d, o = some d ∧ R d d.imm
def DIx (X : Cx) (op : DM) : Prop := IxR X (rM X.K op)
theorem IxR.weak {X : Cx} {r r' : R2} (h : IxR X r) (w : ∀ x y H Q, r' x y H Q → r x y H Q) : IxR X r' :=
  fun value slice pins s σ H x y v u Q I rx ry q hs => h value slice pins s σ H x y v u Q I rx ry (w x y H Q q) hs
theorem reps_atI {K : PySem.W.Frag} {H : Hp} {ds : List D} {vs : List V} {fp : List Addr} (r : Reps K H ds vs fp) {i : Int} {d : D} (e : atI ds i = some d) : ∃ v f, atI vs i = some v ∧ Rep K H d v f ∧ ∀ a ∈ f, a ∈ fp := by
  unfold atI at e ⊢
  rw [← r.len]
  cases h : ixN ds.length i with
  | none => rw [h] at e; cases e
  | some j =>
    rw [h] at e
    obtain ⟨v, f, e1, r1, s⟩ := r.get (i := j) e
    exact ⟨v, f, e1, r1, s⟩
theorem atI_map {α β : Type} (f : α → β) (xs : List α) (i : Int) : atI (xs.map f) i = (atI xs i).map f := by
  unfold atI
  rw [List.length_map]
  cases ixN xs.length i with
  | none => rfl
  | some j => simp
section
variable {X : Cx}
theorem ix_dict (hu : X.A.units + 65 < cLine) : IxR X (fun x y H Q => ∃ a v, x = .ref a ∧ DGet H a y (some v) ∧ Q v H) := by
  intro value slice pins s σ H x y v u Q I rx ry h hs
  obtain ⟨a, w, rfl, g, q⟩ := h
  cases rx
  unfold subscriptTail
  refine wpAny_bind ?_
  rw [getitemInPython_of_ne (dict_typeIs I g).not_modules]
  refine wpAny_bind (wpAny_specialOf (dict_typeIs I g) PySem.F.slot_dict_getitem.lookup ?_)
  have fin : wpAny (model X.prog X.w) X.A (subscripted slice false (.ref a) u) (fun r s₃ => wpAny (model X.prog X.w) X.A (letTemporaryGo value (.ref a) r >>= fun _ => pure r) (EP X pins σ Q) X.xe s₃) X.xe s := by
    rw [hs]
    exact wpAny_operating (wpAny_mono (d_getItem (by omega) I g ry fun w' s3 I3 rw' => (⟨w, H, I3, rw', q⟩ : EP X pins σ Q w' s3)) (fun r s₃ h₃ => wpAny_bind (wpAny_letTemporaryGo (wpAny_pure h₃))) fun _ _ x => x)
  exact wpAny_pure (wpAny_bind fin)
theorem d_ix (hu : X.A.units + 65 < cLine) : DIx X ixM := by
  refine IxR.weak (L2.IxR.or ix_list (L2.IxR.or ix_tup (L2.IxR.or ix_str (ix_dict hu)))) fun x y H Q q => ?_
  obtain ⟨da, db, fa, fb, R, ra, rb, ho, q⟩ := q
  unfold ixM at ho
  split at ho
  · obtain ⟨d, e, hr⟩ := ho
    obtain ⟨a, vs, f, rfl, ha, r1, rfl⟩ := ra.lst_inv
    obtain ⟨v, g, e1, r2, _⟩ := reps_atI r1 e
    exact .inl ⟨a, vs, _, v, rfl, rb.int_inv.1, .of ha, e1, q _ _ _ _ hr (Same.refl H) (Res.of_imm r2)⟩
  · obtain ⟨d, e, hr⟩ := ho
    obtain ⟨a, vs, rfl, ha, r1⟩ := ra.tup_inv
    obtain ⟨v, g, e1, r2, _⟩ := reps_atI r1 e
    exact .inr (.inl ⟨a, vs, _, v, rfl, rb.int_inv.1, .of ha, e1, q _ _ _ _ hr (Same.refl H) (Res.of_imm r2)⟩)
  · obtain ⟨n, e, hr⟩ := ho
    obtain ⟨a, rfl, ha⟩ := ra.scr_inv
    exact .inl ⟨a, _, _, .int n, rfl, rb.int_inv.1, ha, by rw [atI_map, e]; rfl, q _ _ _ _ hr (Same.refl H) ⟨[], Fresh.imm rfl (.int n)⟩⟩
  · obtain ⟨c, hl, e, hr⟩ := ho
    exact .inr (.inr (.inl ⟨_, _, c, ra.str_inv.1, rb.int_inv.1, hl, e, q _ _ _ _ hr (Same.refl H) ⟨[], Fresh.imm rfl (.str _)⟩⟩))
  · obtain ⟨n, e, hr⟩ := ho
    obtain ⟨a, o, rfl, ha, hd, _⟩ := ra.ord_inv
    exact .inr (.inl ⟨a, _, _, .int n, rfl, rb.int_inv.1, sqT_frz ha, by rw [atI_map, e]; rfl, q _ _ _ _ hr (Same.refl H) ⟨[], Fresh.imm rfl (.int n)⟩⟩)
  · obtain ⟨a, r, rfl, g, hr⟩ := lookM_get ra rb ho
    rcases hr with ⟨⟨d, hr, _⟩, rfl⟩ | ⟨d, v, g', ⟨d', hd, hr⟩, rfl, rd, _⟩
    · cases hr
    · cases hd
      exact .inr (.inr (.inr ⟨a, v, rfl, g, q _ _ _ _ hr (Same.refl H) (Res.of_imm rd)⟩))
end
end DL

namespace DL
open PySem PySem.Spec PyProof.Rows L2
set_option linter.all false
set_option Elab.async false
set_option maxRecDepth 100000
set_option maxHeartbeats 1000000

/-! ## D4: calls of built-ins, slices, over data -/
abbrev DC := List D → DR → Prop
def rC (K : PySem.W.Frag) (op : DC) : List V → Hp → VK → Prop := fun xs H Q => ∃ ds fs R, Reps K H ds xs fs ∧ op ds R ∧ ∀ d o v H', R d o → Same H H' → Res K o H H' d v → Q v H'
def DCall (X : Cx) (f : Value) (op : DC) : Prop := CallR X f (rC X.K op)
theorem CallR.weak {X : Cx} {f : Value} {r r' : List V → Hp → VK → Prop} (h : CallR X f r) (w : ∀ xs H Q, r' xs H Q → r xs H Q) : CallR X f r' :=
  fun pins s σ H xs us Q I rx q => h pins s σ H xs us Q I rx (w xs H Q q)
theorem DCall.or {X : Cx} {f : Value} {o1 o2 : DC} (h1 : DCall X f o1) (h2 : DCall X f o2) : DCall X f (fun a R => o1 a R ∨ o2 a R) := by
  refine CallR.weak (L2.CallR.or h1 h2) fun xs H Q q => ?_
  obtain ⟨ds, fs, R, ra, ho, q⟩ := q
  rcases ho with ho | ho
  · exact .inl ⟨ds, fs, R, ra, ho, q⟩
  · exact .inr ⟨ds, fs, R, ra, ho, q⟩
theorem DCall.imp {X : Cx} {f : Value} {o1 o2 : DC} (h1 : DCall X f o1) (h : ∀ a R, o2 a R → o1 a R) : DCall X f o2 := by
  refine CallR.weak h1 fun xs H Q q => ?_
  obtain ⟨ds, fs, R, ra, ho, q⟩ := q
  exact ⟨ds, fs, R, ra, h _ _ ho, q⟩
theorem Reps.nil_inv {K : PySem.W.Frag} {H : Hp} {us : List V} {fp : List Addr} (r : Reps K H [] us fp) : us = [] := by cases r; rfl
theorem Reps.two_inv {K : PySem.W.Frag} {H : Hp} {d e : D} {us : List V} {fp : List Addr} (r : Reps K H [d, e] us fp) : ∃ v w f g, us = [v, w] ∧ Rep K H d v f ∧ Rep K H e w g := by
  cases r with | cons h t => obtain ⟨w, rfl, r2⟩ := t.one_inv; exact ⟨_, _, _, _, rfl, h, r2⟩
section
variable {X : Cx}
def lenM : DC := fun ds R => match ds with
  | [.lst xs] => R (.int xs.length) true
  | [.tup xs] => R (.int xs.length) true
  | [.scr xs] => R (.int xs.length) true
  | [.str s] => s.length ≤ sizeLine ∧ R (.int s.length) true
  | [.dK xs] => R (.int xs.length) true
  | [.dT xs] => R (.int xs.length) true
  | [.ord xs] => R (.int xs.length) true
  | _ => False
theorem call_lenRd : CallR X (.builtin "len") (fun xs H Q => ∃ a kvs, xs = [V.ref a] ∧ Rd H a (.dK kvs) ∧ Q (.int kvs.length) H) := by
  intro pins s σ H xs us Q I r q
  obtain ⟨a, kvs, rfl, hd, q⟩ := q
  obtain ⟨u, rfl, ru⟩ := vals1 r
  cases ru
  exact L2.d_len I hd fun t s' I' => ⟨.int kvs.length, H, I', ⟨t, rfl⟩, q⟩
theorem call_lenRdT : CallR X (.builtin "len") (fun xs H Q => ∃ a kvs, xs = [V.ref a] ∧ Rd H a (.dT kvs) ∧ Q (.int kvs.length) H) := by
  intro pins s σ H xs us Q I r q
  obtain ⟨a, kvs, rfl, hp, q⟩ := q
  obtain ⟨u, rfl, ru⟩ := vals1 r
  cases ru
  obtain ⟨z, hd, ys, rel, dd⟩ := dt_rd I.hok hp
  have hl : kvs.length = ys.length := Paired.length rel
  refine call_len_dictH hd dd (by rw [← hl]; rw [sizeLine_eq] at z; omega) ?_
  rw [← hl]
  exact ⟨.int ((kvs.length : Nat) : Int), H, I.tok _, ⟨_, rfl⟩, q⟩
theorem keys_len {κ : Type} {K : PySem.W.Frag} {H : Hp} {kvs : List (κ × D)} {es : List (κ × V)} (h : kvs.map (·.1) = es.map (·.1)) : kvs.length = es.length := by
  have := congrArg List.length h
  simpa using this
theorem d_len : DCall X (.builtin "len") lenM := by
  refine CallR.weak (L2.CallR.or call_len_seq (L2.CallR.or call_len_str (L2.CallR.or call_lenRd call_lenRdT))) fun xs H Q q => ?_
  obtain ⟨ds, fs, R, ra, ho, q⟩ := q
  unfold lenM at ho
  split at ho
  · obtain ⟨v, rfl, r⟩ := ra.one_inv
    obtain ⟨a, vs, f, rfl, ha, r1, rfl⟩ := r.lst_inv
    exact .inl ⟨a, vs, rfl, .inl (.of ha), by rw [← r1.len]; exact q _ _ _ _ ho (Same.refl H) ⟨[], Fresh.imm rfl (.int _)⟩⟩
  · obtain ⟨v, rfl, r⟩ := ra.one_inv
    obtain ⟨a, vs, rfl, ha, r1⟩ := r.tup_inv
    exact .inl ⟨a, vs, rfl, .inr (.of ha), by rw [← r1.len]; exact q _ _ _ _ ho (Same.refl H) ⟨[], Fresh.imm rfl (.int _)⟩⟩
  · obtain ⟨v, rfl, r⟩ := ra.one_inv
    obtain ⟨a, rfl, ha⟩ := r.scr_inv
    exact .inl ⟨a, _, rfl, .inl ha, by rw [List.length_map]; exact q _ _ _ _ ho (Same.refl H) ⟨[], Fresh.imm rfl (.int _)⟩⟩
  · obtain ⟨v, rfl, r⟩ := ra.one_inv
    exact .inr (.inl ⟨_, by rw [r.str_inv.1], ho.1, q _ _ _ _ ho.2 (Same.refl H) ⟨[], Fresh.imm rfl (.int _)⟩⟩)
  · obtain ⟨v, rfl, r⟩ := ra.one_inv
    obtain ⟨a, es, f, rfl, hd, hk, r1, rfl⟩ := r.dK_inv
    exact .inr (.inr (.inl ⟨a, es, rfl, hd, by rw [← keys_len (K := X.K) (H := H) hk]; exact q _ _ _ _ ho (Same.refl H) ⟨[], Fresh.imm rfl (.int _)⟩⟩))
  · obtain ⟨v, rfl, r⟩ := ra.one_inv
    obtain ⟨a, es, f, rfl, hd, hk, r1, rfl⟩ := r.dT_inv
    exact .inr (.inr (.inr ⟨a, es, rfl, hd, by rw [← keys_len (K := X.K) (H := H) hk]; exact q _ _ _ _ ho (Same.refl H) ⟨[], Fresh.imm rfl (.int _)⟩⟩))
  · obtain ⟨v, rfl, r⟩ := ra.one_inv
    obtain ⟨a, o, rfl, ha, _, _⟩ := r.ord_inv
    exact .inl ⟨a, _, rfl, .inr (sqT_frz ha), by rw [List.length_map]; exact q _ _ _ _ ho (Same.refl H) ⟨[], Fresh.imm rfl (.int _)⟩⟩
  · exact ho.elim
/-- tuple(x), list(x) -/
def tupleM : DC := fun ds R => match ds with
  | [.lst xs] => R (.tup xs) (immL xs)
  | [.tup xs] => R (.tup xs) (immL xs)
  | [.scr ns] => R (.tup (ns.map .int)) true
  | _ => False
theorem d_tuple : DCall X (.type "tuple") tupleM := by
  refine CallR.weak call_tuple_of fun xs H Q q => ?_
  obtain ⟨ds, fs, R, ra, ho, q⟩ := q
  unfold tupleM at ho
  split at ho
  · obtain ⟨v, rfl, r⟩ := ra.one_inv
    obtain ⟨a, vs, f, rfl, ha, r1, rfl⟩ := r.lst_inv
    exact ⟨a, vs, rfl, .inl ⟨.of ha, fun l hl => q _ _ _ _ ho (same_upd hl) (res_tup hl r1)⟩⟩
  · obtain ⟨v, rfl, r⟩ := ra.one_inv
    obtain ⟨a, vs, rfl, ha, r1⟩ := id r.tup_inv
    exact ⟨a, vs, rfl, .inr ⟨.of ha, q _ _ _ _ ho (Same.refl H) (by simpa [D.imm] using Res.of_imm (K := X.K) (H := H) r)⟩⟩
  · obtain ⟨v, rfl, r⟩ := ra.one_inv
    obtain ⟨a, rfl, ha⟩ := r.scr_inv
    rename_i ns
    refine ⟨a, _, rfl, .inl ⟨ha, fun l hl => q _ _ _ _ ho (same_upd hl) ?_⟩⟩
    have := res_tup hl (reps_ints (K := X.K) (H := H) ns)
    rw [show immL (ns.map D.int) = true by rw [immL_iff]; intro d h; obtain ⟨k, _, rfl⟩ := List.mem_map.mp h; rfl] at this
    exact this
  · exact ho.elim
/-- tuple(xs), the object known -/
def tupleO : DC := fun ds R => match ds with
  | [.lst xs] => ∃ ns, toInts xs = some ns ∧ R (.ord ns) true
  | [.ord ns] => R (.ord ns) true
  | _ => False
theorem call_list_dKR (hc : X.calm = true) : CallR X (.type "list") (fun xs H Q => ∃ p kvs, xs = [.ref p] ∧ Rd H p (.dK kvs) ∧ ∀ q, H q = none → Q (.ref q) (upd H q (.lst (kvs.map fun kv => kV kv.1)))) := by
  intro pins s σ H xs us Q I r h
  obtain ⟨p, kvs, e, hk, q⟩ := h
  subst e
  obtain ⟨u, eu, rx⟩ := vals1 r
  subst eu
  obtain rfl : u = Value.ref p := rx
  obtain ⟨z, lo, vs, rk, hd⟩ := dk_rd I.hok hk
  obtain ⟨ep, hat⟩ := hd.dictAt
  have hl : kvs.length = vs.length := Paired.length rk
  refine PySem.W.kdl_call (PySem.W.kdl_dict (knd := mixKind X.prog X.w) (kvs := vs) (ep := ep) lo) (I.ok.hd hc) hat (by rw [← hl]; exact z) fun h' tk acc' c' hkeep hS hacc => ?_
  refine ⟨.ref s.heap.objs.size, upd H s.heap.objs.size (.lst (kvs.map fun kv => kV kv.1)), I.laid hkeep (Nat.le_refl _) (show ObjOk X.prog X.w _ _ _ (.lst (kvs.map fun kv => kV kv.1)) from ⟨?_, acc'.toList, c', ?_, ?_⟩), rfl, q _ (I.hok.fresh (Nat.le_refl _))⟩
  · rw [List.length_map]; exact z
  · have el : acc'.toList.length = acc'.size := by simp
    refine vals_of_at (by rw [List.length_map, el, hacc.1, hl]) fun j x w h1 h2 => ?_
    obtain ⟨k, y, hky, hi⟩ := hacc.2 j w (by rw [← Array.getElem?_toList]; exact h2)
    have e1 : (kvs.map (·.1))[j]? = some k := by
      rw [KV.keys rk, List.getElem?_map, hky] <;> rfl
    have e2 : (kvs.map fun kv => kV kv.1)[j]? = some (kV k) := by
      have e3 : (kvs.map fun kv => kV kv.1) = (kvs.map (·.1)).map kV := by rw [List.map_map] <;> rfl
      rw [e3, List.getElem?_map, e1] <;> rfl
    rw [e2] at h1
    cases h1
    exact keyIs_rel hi
  · have e0 : acc'.toList.toArray = acc' := by simp
    rw [e0]; exact hS
def listM : DC := fun ds R => match ds with
  | [.lst xs] => R (.lst xs) (immL xs)
  | [.tup xs] => R (.lst xs) (immL xs)
  | [.scr ns] => R (.lst (ns.map .int)) true
  | [.dK kvs] => R (.lst (kvs.map fun kv => kD kv.1)) true
  | [.ord ns] => R (.lst (ns.map .int)) true
  | _ => False
theorem immL_ints (ns : List Int) : immL (ns.map .int) = true := by
  rw [immL_iff]; intro d h; obtain ⟨k, _, rfl⟩ := List.mem_map.mp h; rfl
theorem d_list (hc : X.calm = true) : DCall X (.type "list") listM := by
  refine CallR.weak (L2.CallR.or call_list_of (call_list_dKR hc)) fun xs H Q q => ?_
  obtain ⟨ds, fs, R, ra, ho, q⟩ := q
  unfold listM at ho
  split at ho
  · obtain ⟨v, rfl, r⟩ := ra.one_inv
    obtain ⟨a, vs, f, rfl, ha, r1, rfl⟩ := r.lst_inv
    exact .inl ⟨a, vs, rfl, .inl (.of ha), fun l hl => q _ _ _ _ ho (same_upd hl) (res_lst hl r1)⟩
  · obtain ⟨v, rfl, r⟩ := ra.one_inv
    obtain ⟨a, vs, rfl, ha, r1⟩ := r.tup_inv
    exact .inl ⟨a, vs, rfl, .inr (.of ha), fun l hl => q _ _ _ _ ho (same_upd hl) (res_lst hl r1)⟩
  · obtain ⟨v, rfl, r⟩ := ra.one_inv
    obtain ⟨a, rfl, ha⟩ := r.scr_inv
    rename_i ns
    refine .inl ⟨a, _, rfl, .inl ha, fun l hl => q _ _ _ _ ho (same_upd hl) ?_⟩
    have := res_lst hl (reps_ints (K := X.K) (H := H) ns)
    rw [immL_ints] at this
    exact this
  · obtain ⟨v, rfl, r⟩ := ra.one_inv
    obtain ⟨a, es, f, rfl, hd, hk, r1, rfl⟩ := r.dK_inv
    rename_i kvs
    refine .inr ⟨a, es, rfl, hd, fun l hl => q _ _ _ _ ho (same_upd hl) ?_⟩
    have e1 : (kvs.map fun kv => kD kv.1) = (kvs.map (·.1)).map kD := by rw [List.map_map]; rfl
    have e2 : (es.map fun kv => kV kv.1) = (kvs.map (·.1)).map kV := by rw [hk, List.map_map]; rfl
    rw [e1, e2]
    have := res_lst hl (reps_kD X.K H (kvs.map (·.1)))
    rw [immL_kD] at this
    exact this
  · obtain ⟨v, rfl, r⟩ := ra.one_inv
    rename_i ns
    obtain ⟨a, o, rfl, ha, _, _⟩ := r.ord_inv
    refine .inl ⟨a, _, rfl, .inr (sqT_frz ha), fun l hl => q _ _ _ _ ho (same_upd hl) ?_⟩
    have := res_lst hl (reps_ints (K := X.K) (H := H) ns)
    rw [immL_ints] at this
    exact this
  · exact ho.elim
/-- min, max of two ints -/
def min2M : DC := fun ds R => match ds with
  | [.int i, .int j] => R (.int (if j < i then j else i)) true
  | _ => False
def max2M : DC := fun ds R => match ds with
  | [.int i, .int j] => R (.int (if j > i then j else i)) true
  | _ => False
theorem d_min2 (hc : X.calm = true) : DCall X (.builtin "min") min2M := by
  refine CallR.weak (call_min2 hc) fun xs H Q q => ?_
  obtain ⟨ds, fs, R, ra, ho, q⟩ := q
  unfold min2M at ho
  split at ho
  · obtain ⟨v, w, f, g, rfl, r1, r2⟩ := ra.two_inv
    exact ⟨_, _, by rw [r1.int_inv.1, r2.int_inv.1], q _ _ _ _ ho (Same.refl H) ⟨[], Fresh.imm rfl (.int _)⟩⟩
  · exact ho.elim
theorem d_max2 (hc : X.calm = true) : DCall X (.builtin "max") max2M := by
  refine CallR.weak (call_max2 hc) fun xs H Q q => ?_
  obtain ⟨ds, fs, R, ra, ho, q⟩ := q
  unfold max2M at ho
  split at ho
  · obtain ⟨v, w, f, g, rfl, r1, r2⟩ := ra.two_inv
    exact ⟨_, _, by rw [r1.int_inv.1, r2.int_inv.1], q _ _ _ _ ho (Same.refl H) ⟨[], Fresh.imm rfl (.int _)⟩⟩
  · exact ho.elim
/-- all, any of a list of truths -/
def allM : DC := fun ds R => match ds with
  | [.lst xs] => ∃ bs, toBls xs = some bs ∧ R (.bl (bs.all id)) true
  | _ => False
def anyM : DC := fun ds R => match ds with
  | [.lst xs] => ∃ bs, toBls xs = some bs ∧ R (.bl (bs.any id)) true
  | _ => False
theorem d_all (hc : X.calm = true) : DCall X (.builtin "all") allM := by
  refine CallR.weak (cr_all hc) fun xs H Q q => ?_
  obtain ⟨ds, fs, R, ra, ho, q⟩ := q
  unfold allM at ho
  split at ho
  · obtain ⟨bs, e, hr⟩ := ho
    obtain ⟨v, rfl, r⟩ := ra.one_inv
    obtain ⟨a, vs, f, rfl, ha, r1, rfl⟩ := r.lst_inv
    rw [toBls_eq e] at r1
    rw [r1.bls] at ha
    exact ⟨a, bs, rfl, .of ha, q _ _ _ _ hr (Same.refl H) ⟨[], Fresh.imm rfl (.bl _)⟩⟩
  · exact ho.elim
end

/-! ### sorted -/
def prD (p : Int × Int) : D := .tup [.int p.1, .int p.2]
def prV (p : Int × Int) : List V := [.int p.1, .int p.2]
def toPrs : List D → Option (List (Int × Int))
  | [] => some []
  | .tup [.int i, .int j] :: ds => (toPrs ds).map ((i, j) :: ·)
  | _ => none
theorem toPrs_map (ps : List (Int × Int)) : toPrs (ps.map prD) = some ps := by
  induction ps with
  | nil => rfl
  | cons n ns ih => simp [toPrs, ih, prD]
theorem toPrs_eq {ds : List D} : ∀ {ps : List (Int × Int)}, toPrs ds = some ps → ds = ps.map prD := by
  induction ds with
  | nil => intro ps h; simp [toPrs] at h; subst h; rfl
  | cons d ds ih =>
    intro ps h
    unfold toPrs at h
    split at h
    · rename_i e; cases e
    · rename_i i j ds' e
      cases e
      simp only [Option.map_eq_some_iff] at h
      obtain ⟨qs, e, rfl⟩ := h
      rw [ih e]; rfl
    · cases h
/-- ints, pairs of ints, rising -/
def ileB (a b : Int) : Bool := decide (a ≤ b)
def pleB (a b : Int × Int) : Bool := decide (a.1 < b.1) || (decide (a.1 = b.1) && decide (a.2 ≤ b.2))
def isort (ns : List Int) : List Int := ns.mergeSort ileB
def psort (ns : List (Int × Int)) : List (Int × Int) := ns.mergeSort pleB
theorem eq_of_sorted {α : Type} {le : α → α → Prop} (anti : ∀ a b, le a b → le b a → a = b) : ∀ {xs ys : List α}, xs.Perm ys → xs.Pairwise le → ys.Pairwise le → xs = ys
  | [], ys, p, _, _ => (List.Perm.nil_eq p)
  | x :: xs, [], p, _, _ => by have := p.length_eq; simp at this
  | x :: xs, y :: ys, p, s1, s2 => by
    have e : x = y := by
      have h1 : x ∈ y :: ys := p.mem_iff.mp List.mem_cons_self
      have h2 : y ∈ x :: xs := p.mem_iff.mpr List.mem_cons_self
      rcases List.mem_cons.mp h1 with h1 | h1
      · exact h1
      · rcases List.mem_cons.mp h2 with h2 | h2
        · exact h2.symm
        · exact anti _ _ ((List.pairwise_cons.mp s1).1 _ h2) ((List.pairwise_cons.mp s2).1 _ h1)
    subst e
    rw [eq_of_sorted anti ((List.perm_cons x).mp p) (List.pairwise_cons.mp s1).2 (List.pairwise_cons.mp s2).2]
theorem isort_perm (ns : List Int) : (isort ns).Perm ns := List.mergeSort_perm _ _
theorem psort_perm (ns : List (Int × Int)) : (psort ns).Perm ns := List.mergeSort_perm _ _
theorem isort_sorted (ns : List Int) : (isort ns).Pairwise (· ≤ ·) := by
  have := List.pairwise_mergeSort (le := ileB) (fun a b c h1 h2 => by unfold ileB at *; simp at *; omega) (fun a b => by unfold ileB; simp; omega) ns
  exact this.imp fun h => by unfold ileB at h; simpa using h
theorem psort_sorted (ns : List (Int × Int)) : (psort ns).Pairwise (fun a b => a.1 < b.1 ∨ (a.1 = b.1 ∧ a.2 ≤ b.2)) := by
  have := List.pairwise_mergeSort (le := pleB) (fun a b c h1 h2 => by unfold pleB at *; simp at *; omega) (fun a b => by unfold pleB; simp; omega) ns
  exact this.imp fun h => by unfold pleB at h; simpa using h
theorem isort_eq {ns ms : List Int} (p : ms.Perm ns) (s : ms.Pairwise (· ≤ ·)) : ms = isort ns :=
  eq_of_sorted (le := (· ≤ ·)) (fun a b h1 h2 => by omega) (p.trans (isort_perm ns).symm) s (isort_sorted ns)
theorem psort_eq {ns ms : List (Int × Int)} (p : ms.Perm ns) (s : ms.Pairwise (fun a b => a.1 < b.1 ∨ (a.1 = b.1 ∧ a.2 ≤ b.2))) : ms = psort ns :=
  eq_of_sorted (le := fun a b => a.1 < b.1 ∨ (a.1 = b.1 ∧ a.2 ≤ b.2)) (fun a b h1 h2 => Prod.ext (by omega) (by omega)) (p.trans (psort_perm ns).symm) s (psort_sorted ns)
def sortedM : DC := fun ds R => match ds with
  | [.lst xs] => (∃ ns, toInts xs = some ns ∧ R (.lst ((isort ns).map .int)) true) ∨ (∃ ps, toPrs xs = some ps ∧ R (.lst ((psort ps).map prD)) true)
  | [.dK kvs] => ∃ ns, toInts (kvs.map fun kv => kD kv.1) = some ns ∧ ns.length < 64 ∧ R (.lst ((isort ns).map .int)) true
  | [.ord ns] => R (.lst ((isort ns).map .int)) true
  | [.tup xs] => ∃ ns, toInts xs = some ns ∧ R (.lst ((isort ns).map .int)) true
  | _ => False
theorem reps_prs {K : PySem.W.Frag} {H : Hp} : ∀ {ps : List (Int × Int)} {vs : List V} {f : List Addr}, Reps K H (ps.map prD) vs f → ∃ ts : List Addr, vs = ts.map V.ref ∧ ts.length = ps.length ∧ ∀ (i : Nat) t p, ts[i]? = some t → ps[i]? = some p → H t = some (.tup (prV p))
  | [], vs, f, r => by cases r; exact ⟨[], rfl, rfl, fun i t p h => by simp at h⟩
  | p :: ps, vs, f, r => by
    cases r with
    | cons h t =>
      obtain ⟨a, us, rfl, ha, r2⟩ := h.tup_inv
      obtain ⟨v, w, _, _, rfl, r3, r4⟩ := r2.two_inv
      rw [r3.int_inv.1, r4.int_inv.1] at ha
      obtain ⟨ts, rfl, hl, hh⟩ := reps_prs t
      refine ⟨a :: ts, rfl, by simp [hl], fun i t q h1 h2 => ?_⟩
      cases i with
      | zero => simp at h1 h2; subst h1; subst h2; exact ha
      | succ i => exact hh i t q (by simpa using h1) (by simpa using h2)
theorem prs_reps {K : PySem.W.Frag} {H : Hp} {k : V → Int × Int} : ∀ {ys : List V}, (∀ y ∈ ys, ∃ t, y = V.ref t ∧ H t = some (.tup (prV (k y)))) → Reps K H ((ys.map k).map prD) ys []
  | [], _ => .nil
  | y :: ys, h => by
    obtain ⟨t, e, ht⟩ := h y List.mem_cons_self
    refine .cons (f := []) ?_ (prs_reps fun z hz => h z (List.mem_cons_of_mem _ hz))
    have : Rep K H (prD (k y)) (.ref t) [] := .tup ht (.cons (f := []) (.int _) (.cons (f := []) (.int _) .nil))
    rw [e] at this ⊢
    exact this
theorem immL_prs (ps : List (Int × Int)) : immL (ps.map prD) = true := by
  rw [immL_iff]; intro d h; obtain ⟨k, _, rfl⟩ := List.mem_map.mp h; rfl
section
variable {X : Cx}
theorem d_sorted (hc : X.calm = true) : DCall X (.builtin "sorted") sortedM := by
  refine CallR.weak (L2.CallR.or cr_sortedI (L2.CallR.or cr_sortedPO (L2.CallR.or (call_sortedDI hc) cr_sortedT))) fun xs H Q q => ?_
  obtain ⟨ds, fs, R, ra, ho, q⟩ := q
  unfold sortedM at ho
  split at ho
  · obtain ⟨v, rfl, r⟩ := ra.one_inv
    obtain ⟨a, vs, f, rfl, ha, r1, rfl⟩ := r.lst_inv
    rcases ho with ⟨ns, e, hr⟩ | ⟨ps, e, hr⟩
    · rw [toInts_eq e] at r1
      rw [r1.ints] at ha
      refine .inl ⟨a, ns, rfl, .of ha, fun ns' p h1 h2 hp => ?_⟩
      rw [isort_eq h1 h2]
      have := res_lst hp (reps_ints (K := X.K) (H := H) (isort ns))
      rw [immL_ints] at this
      exact q _ _ _ _ hr (same_upd hp) this
    · rw [toPrs_eq e] at r1
      obtain ⟨ts, rfl, hl, hh⟩ := reps_prs r1
      let k : V → Int × Int := fun x => match x with
        | .ref t => match H t with
          | some (.tup [.int i, .int j]) => (i, j)
          | _ => (0, 0)
        | _ => (0, 0)
      have hk : ∀ x ∈ ts.map V.ref, ∃ t, x = V.ref t ∧ H t = some (.tup (prV (k x))) := fun x hx => by
        obtain ⟨t, ht, rfl⟩ := List.mem_map.mp hx
        obtain ⟨i, hi, et⟩ := List.getElem_of_mem ht
        have e2 := hh i t _ (by rw [List.getElem?_eq_getElem hi, et]) (List.getElem?_eq_getElem (hl ▸ hi))
        refine ⟨t, rfl, ?_⟩
        rw [e2]
        show _ = some (HO.tup (prV (match H t with
          | some (.tup [.int i, .int j]) => (i, j)
          | _ => (0, 0))))
        rw [e2]; rfl
      have hm : (ts.map V.ref).map k = ps := by
        apply List.ext_getElem?
        intro i
        rw [List.map_map, List.getElem?_map]
        cases ei : ts[i]? with
        | none =>
          have : ps[i]? = none := List.getElem?_eq_none (by rw [← hl]; exact List.getElem?_eq_none_iff.mp ei)
          rw [this]; rfl
        | some t =>
          have hi : i < ts.length := (List.getElem?_eq_some_iff.mp ei).1
          have e2 := hh i t _ ei (List.getElem?_eq_getElem (hl ▸ hi))
          rw [List.getElem?_eq_getElem (hl ▸ hi)]
          show some (k (.ref t)) = _
          congr 1
          show (match H t with
          | some (.tup [.int i, .int j]) => (i, j)
          | _ => (0, 0)) = _
          rw [e2]; rfl
      refine .inr (.inl ⟨a, ts.map V.ref, k, rfl, .of ha, hk, fun ys p h1 h2 hp => ?_⟩)
      have pm : ys.Perm (ts.map V.ref) := h2.perm
      have e3 : ys.map k = psort ps := by
        refine psort_eq ?_ ?_
        · rw [← hm]; exact pm.map k
        · rw [List.pairwise_map]
          refine List.Pairwise.imp ?_ h1
          intro x y hxy
          have := SrtO.lexB_no.mp (by simpa using hxy)
          omega
      have rr := prs_reps (K := X.K) (H := H) (k := k) (ys := ys) fun y hy => hk y (pm.mem_iff.mp hy)
      rw [e3] at rr
      have := res_lst hp rr
      rw [immL_prs] at this
      exact q _ _ _ _ hr (same_upd hp) this
  · obtain ⟨v, rfl, r⟩ := ra.one_inv
    obtain ⟨a, es, f, rfl, hd, hk, r1, rfl⟩ := r.dK_inv
    obtain ⟨ns, e, h64, hr⟩ := ho
    rename_i kvs
    have e1 : (kvs.map (·.1)).map kD = ns.map .int := by
      rw [← toInts_eq e, List.map_map]; rfl
    have e2 : kvs.map (·.1) = ns.map Sum.inl := by
      have : ∀ (ks : List Key) (ns : List Int), ks.map kD = ns.map .int → ks = ns.map Sum.inl := by
        intro ks
        induction ks with
        | nil => intro ns h; cases ns <;> simp at h; rfl
        | cons k ks ih =>
          intro ns h
          cases ns with
          | nil => simp at h
          | cons n ns =>
            simp only [List.map_cons, List.cons.injEq] at h
            rw [ih ns h.2]
            cases k with
            | inl i => have := h.1; simp [kD] at this; rw [this]; rfl
            | inr i => have := h.1; simp [kD] at this
      exact this _ _ e1
    refine .inr (.inr (.inl ⟨a, es, ns, rfl, hd, hk.symm.trans e2, h64, fun ys p h1 h2 hp => ?_⟩))
    rw [isort_eq h1 h2]
    have := res_lst hp (reps_ints (K := X.K) (H := H) (isort ns))
    rw [immL_ints] at this
    exact q _ _ _ _ hr (same_upd hp) this
  · obtain ⟨v, rfl, r⟩ := ra.one_inv
    rename_i ns
    obtain ⟨a, o, rfl, ha, _, _⟩ := r.ord_inv
    refine .inr (.inr (.inr ⟨a, ns, rfl, sqT_frz ha, fun ys p h1 h2 hp => ?_⟩))
    rw [isort_eq h1 h2]
    have := res_lst hp (reps_ints (K := X.K) (H := H) (isort ns))
    rw [immL_ints] at this
    exact q _ _ _ _ ho (same_upd hp) this
  · obtain ⟨v, rfl, r⟩ := ra.one_inv
    obtain ⟨ns, e, hr⟩ := ho
    obtain ⟨a, rfl, ha⟩ := rep_tupInts r e
    refine .inr (.inr (.inr ⟨a, ns, rfl, .of ha, fun ys p h1 h2 hp => ?_⟩))
    rw [isort_eq h1 h2]
    have := res_lst hp (reps_ints (K := X.K) (H := H) (isort ns))
    rw [immL_ints] at this
    exact q _ _ _ _ hr (same_upd hp) this
  · exact ho.elim
end
end DL

namespace DL
open PySem PySem.Spec PyProof.Rows L2
set_option linter.all false
set_option Elab.async false
set_option maxRecDepth 100000
set_option maxHeartbeats 1000000

/-! ## D5: what is walked, over data -/
def PyI (X : Cx) (tg : Expr) (r : V → Hp → (It → Hp → Prop) → Prop) : Prop :=
  ∀ (pins : List (Addr × Obj)) (s : Shared) (σ : L2.St) (H : Hp) (x : V) (v : Value) (R : It → Hp → Prop), Inv X pins σ H s → RelV x v → r x H R → wpAny (model X.prog X.w) X.A (pyIter v) (PIE X pins σ tg R) X.xe s
def iVal (te : TE) (r : V → Hp → (It → Hp → Prop) → Prop) : TI := fun σ H R => te σ H fun x H1 => r x H1 R
theorem pi_of {X : Cx} {tg l : Expr} {tl : TE} {r : V → Hp → (It → Hp → Prop) → Prop} (hl : PE X l tl) (h : PyI X tg r) : PI X tg l (iVal tl r) := by
  refine ⟨fun pins s σ H R I q => ?_⟩
  refine thn (hl.run pins s σ H _ I q) fun v s1 ⟨x, H1, I1, r1, q1⟩ => ?_
  exact h pins s1 σ H1 x v R I1 r1 q1
theorem PyI.or {X : Cx} {tg : Expr} {r r' : V → Hp → (It → Hp → Prop) → Prop} (h : PyI X tg r) (h' : PyI X tg r') : PyI X tg (fun x H R => r x H R ∨ r' x H R) :=
  fun pins s σ H x v R I rx q => q.elim (h pins s σ H x v R I rx) (h' pins s σ H x v R I rx)
theorem PyI.weak {X : Cx} {tg : Expr} {r r' : V → Hp → (It → Hp → Prop) → Prop} (h : PyI X tg r) (w : ∀ x H R, r' x H R → r x H R) : PyI X tg r' :=
  fun pins s σ H x v R I rx q => h pins s σ H x v R I rx (w x H R q)
section
variable {X : Cx} {tg : Expr}
theorem pyi_list : PyI X tg (fun x H R => ∃ a xs, x = .ref a ∧ SqL X.K H a xs ∧ (xs.length ≤ sizeLine → R (Itl X.K a) H)) := by
  intro pins s σ H x v R I r1 q1
  obtain ⟨a, xs, rfl, hq, q⟩ := q1
  cases r1
  obtain ⟨its, rv, p, hz⟩ := I.list hq
  refine wpAny_pyIter_list p.isList ?_
  refine ⟨s.heap.objs.size, [s.heap.objs.size], _, _, H, rfl, I.kept (t' := s.toks) fun b o e => Heap.get?_push_of_some _ e, turn_list a _, ⟨_, Heap.get?_push_size _ rfl, rfl, rfl⟩, fun b hb => ?_, q hz⟩
  have e : b = s.heap.objs.size := by simpa using hb
  subst e
  exact I.fpOk (Nat.le_refl _) (I.hok.fresh (Nat.le_refl _))
theorem pyi_tup : PyI X tg (fun x H R => ∃ a xs, x = .ref a ∧ SqT X.K H a xs ∧ (xs.length ≤ sizeLine → R (Itt X.K a) H)) := by
  intro pins s σ H x v R I r1 q1
  obtain ⟨a, xs, rfl, hq, q⟩ := q1
  cases r1
  obtain ⟨its, rv, p, hz⟩ := I.tuple hq
  refine wpAny_pyIter_tuple (show s.heap.IsTuple a its.toArray from p) ?_
  refine ⟨s.heap.objs.size, [s.heap.objs.size], _, _, H, rfl, I.kept (t' := s.toks) fun b o e => Heap.get?_push_of_some _ e, turn_tuple a _, ⟨_, Heap.get?_push_size _ rfl, rfl, rfl⟩, fun b hb => ?_, q hz⟩
  have e : b = s.heap.objs.size := by simpa using hb
  subst e
  exact I.fpOk (Nat.le_refl _) (I.hok.fresh (Nat.le_refl _))
theorem pyi_str : PyI X tg (fun x H R => ∃ z, x = .str z ∧ R (Its z) H) := by
  intro pins s σ H x v R I r1 q1
  obtain ⟨x, rfl, q⟩ := q1
  obtain ⟨t, rfl⟩ := r1
  cases ha : x.cps.all (· < 128)
  · exact wpAny_pyIter_wide ha (pi_one (tk := s.toks) I _ (turn_str _ x t "str_iterator" (.inr rfl)) ⟨_, Heap.get?_push_size _ rfl, rfl, rfl⟩ q)
  · exact wpAny_pyIter_ascii ha (pi_one (tk := s.toks) I _ (turn_str _ x t "str_ascii_iterator" (.inl rfl)) ⟨_, Heap.get?_push_size _ rfl, rfl, rfl⟩ q)
/-- a locked dict -/
theorem pyi_keys : PyI X tg (fun x H R => ∃ d o, x = .ref d ∧ ((∃ kvs, H d = some (.frz o (.dK kvs)) ∧ (kvs.length ≤ sizeLine → R (Itk d o kvs) H)) ∨ ∃ kvs, H d = some (.frz o (.dT kvs)) ∧ (kvs.length ≤ sizeLine → R (Itkt d o kvs) H))) := by
  intro pins s σ H x v R I rx q
  obtain ⟨d, o, rfl, q⟩ := q
  obtain rfl : v = Value.ref d := rx
  rcases q with ⟨kvs, hd, q⟩ | ⟨kvs, hd, q⟩
  · have hz : kvs.length ≤ sizeLine := (dk_rd I.hok (.inr ⟨o, hd⟩)).1
    obtain ⟨hs, hgd, hx, es, ep, vs, hdt, hsz, kv, hm⟩ := I.frzK hd
    refine iter_keys hs hgd hx hdt (pi_one (tk := s.toks) I _ (turn_keys _ hdt) ⟨_, Heap.get?_push_size _ rfl, rfl, ?_⟩ (q hz))
    rw [hsz] <;> rfl
  · have hz : kvs.length ≤ sizeLine := (dt_rd I.hok (.inr ⟨o, hd⟩)).1
    obtain ⟨hs, hgd, hx, es, ep, hdt, hsz, ent⟩ := I.frzT hd
    refine iter_keys hs hgd hx hdt (pi_one (tk := s.toks) I _ (turn_keysT _ hdt) ⟨_, Heap.get?_push_size _ rfl, rfl, ?_⟩ (q hz))
    rw [hsz] <;> rfl
end

/-- J walks xs, as long as Kr stands -/
structure Good (K : PySem.W.Frag) (J : It) (xs : List D) (Kr : Hp) : Prop where
  go : ∀ i H, Same Kr H → i < xs.length → J.go i H
  yld : ∀ i H x H', Same Kr H → i < xs.length → J.yld i H x H' → ∃ d f, xs[i]? = some d ∧ Same H H' ∧ Rep K H' d x f ∧ ∀ a ∈ f, ∃ o, Kr a = some o
  stop : ∀ i H, Same Kr H → xs.length ≤ i → J.stop i H
def items : D → Option (List D)
  | .lst xs => some xs
  | .tup xs => some xs
  | .scr ns => some (ns.map .int)
  | .ord ns => some (ns.map .int)
  | .str s => some (s.cps.toList.map fun c => .str ⟨#[c]⟩)
  | _ => none
/-- what Kr must have of H for a thing at f -/
structure Holds (H Kr : Hp) (f : List Addr) : Prop where
  sub : Same Kr H
  at_ : ∀ a ∈ f, ∃ o, Kr a = some o
  tup : ∀ a (xs : TupX), H a = some xs.1 → Kr a = some xs.1
theorem Holds.kept {H Kr H' : Hp} {f : List Addr} (h : Holds H Kr f) (s : Same Kr H') : Kept H H' f :=
  ⟨fun a m o e => by
    obtain ⟨o', e'⟩ := h.at_ a m
    have := h.sub a o' e'
    rw [e] at this; cases this
    exact s a _ e', fun a xs e => s a _ (h.tup a xs e)⟩
theorem Holds.mono {H Kr : Hp} {f g : List Addr} (h : Holds H Kr f) (s : ∀ a ∈ g, a ∈ f) : Holds H Kr g := ⟨h.sub, fun a m => h.at_ a (s a m), h.tup⟩
section
variable {K : PySem.W.Frag} {H Kr : Hp}
theorem good_list {ds : List D} {a : Addr} {vs : List V} {f : List Addr} (hs : ∀ H', Same Kr H' → SqL K H' a vs) (r : Reps K H ds vs f) (h : Holds H Kr f) : Good K (Itl K a) ds Kr where
  go := fun i H' s hi => by
    have : i < vs.length := r.len ▸ hi
    exact ⟨vs, vs[i], hs H' s, List.getElem?_eq_getElem this⟩
  yld := fun i H1 x H' s hi hy => by
    obtain ⟨rfl, hx⟩ := hy
    have e := hx vs (hs _ s)
    obtain ⟨v, g, e1, r1, sg⟩ := r.get (List.getElem?_eq_getElem hi)
    rw [e] at e1; cases e1
    exact ⟨_, g, List.getElem?_eq_getElem hi, Same.refl _, r1.keep ((h.mono sg).kept s), fun a m => h.at_ a (sg a m)⟩
  stop := fun i H' s hi => ⟨vs, hs H' s, r.len ▸ hi⟩
theorem good_tup {ds : List D} {a : Addr} {vs : List V} {f : List Addr} (hs : ∀ H', Same Kr H' → SqT K H' a vs) (r : Reps K H ds vs f) (h : Holds H Kr f) : Good K (Itt K a) ds Kr where
  go := fun i H' s hi => by
    have : i < vs.length := r.len ▸ hi
    exact ⟨vs, vs[i], hs H' s, List.getElem?_eq_getElem this⟩
  yld := fun i H1 x H' s hi hy => by
    obtain ⟨rfl, hx⟩ := hy
    have e := hx vs (hs _ s)
    obtain ⟨v, g, e1, r1, sg⟩ := r.get (List.getElem?_eq_getElem hi)
    rw [e] at e1; cases e1
    exact ⟨_, g, List.getElem?_eq_getElem hi, Same.refl _, r1.keep ((h.mono sg).kept s), fun a m => h.at_ a (sg a m)⟩
  stop := fun i H' s hi => ⟨vs, hs H' s, r.len ▸ hi⟩
theorem good_str {z : Str} : Good K (Its z) (z.cps.toList.map fun c => .str ⟨#[c]⟩) Kr where
  go := fun i H' s hi => by
    show i < z.cps.size
    simpa using hi
  yld := fun i H1 x H' s hi hy => by
    obtain ⟨rfl, c, hc, rfl⟩ := hy
    refine ⟨.str ⟨#[c]⟩, [], ?_, Same.refl _, .str _, fun a m => by cases m⟩
    rw [List.getElem?_map, Array.getElem?_toList, hc]; rfl
  stop := fun i H' s hi => by
    show z.cps.size ≤ i
    simpa using hi
theorem good_range {lo : Int} {n : Nat} : Good K (Itr lo n) ((List.range n).map fun i => .int (lo + (i : Nat))) Kr where
  go := fun i H' s hi => by show i < n; simpa using hi
  yld := fun i H1 x H' s hi hy => by
    obtain ⟨rfl, rfl⟩ := hy
    refine ⟨.int (lo + (i : Nat)), [], ?_, Same.refl _, .int _, fun a m => by cases m⟩
    have : i < n := by simpa using hi
    simp [this]
  stop := fun i H' s hi => by show n ≤ i; simpa using hi
theorem good_keys {kvs : List (Key × D)} {es : List (Key × V)} {d : Addr} {o : Obj} (hk : kvs.map (·.1) = es.map (·.1)) (h : Kr d = some (.frz o (.dK es))) : Good K (Itk d o es) (kvs.map fun kv => kD kv.1) Kr where
  go := fun i H' s hi => ⟨s _ _ h, by have := congrArg List.length hk; simp at this hi; omega⟩
  yld := fun i H1 x H' s hi hy => by
    obtain ⟨rfl, k, v, e, rfl⟩ := hy
    refine ⟨kD k, [], ?_, Same.refl _, rep_kD _ _ _, fun a m => by cases m⟩
    have e1 : (es.map (·.1))[i]? = some k := by rw [List.getElem?_map, e]; rfl
    rw [← hk, List.getElem?_map] at e1
    rw [List.getElem?_map]
    cases q : kvs[i]? with
    | none => rw [q] at e1; cases e1
    | some p => rw [q] at e1; simp at e1; simp [e1]
  stop := fun i H' s hi => ⟨s _ _ h, by have := congrArg List.length hk; simp at this hi; omega⟩
def kTD (k : List Key) : D := .tup (k.map kD)
theorem good_keysT {kvs : List (List Key × D)} {es : List (List Key × V)} {d : Addr} {o : Obj} (hk : kvs.map (·.1) = es.map (·.1)) (h : Kr d = some (.frz o (.dT es))) : Good K (Itkt d o es) (kvs.map fun kv => kTD kv.1) Kr where
  go := fun i H' s hi => ⟨s _ _ h, by have := congrArg List.length hk; simp at this hi; omega⟩
  yld := fun i H1 x H' s hi hy => by
    obtain ⟨rfl, k, v, q, e, rfl, hq⟩ := hy
    refine ⟨kTD k, [], ?_, Same.refl _, .tup hq (reps_kD _ _ _), fun a m => by cases m⟩
    have e1 : (es.map (·.1))[i]? = some k := by rw [List.getElem?_map, e]; rfl
    rw [← hk, List.getElem?_map] at e1
    rw [List.getElem?_map]
    cases q : kvs[i]? with
    | none => rw [q] at e1; cases e1
    | some p => rw [q] at e1; simp at e1; simp [e1]
  stop := fun i H' s hi => ⟨s _ _ h, by have := congrArg List.length hk; simp at this hi; omega⟩
end
/-- a sequence of any kind -/
def rSeq (K : PySem.W.Frag) : V → Hp → (It → Hp → Prop) → Prop := fun x H R => ∃ d f xs, Rep K H d x f ∧ items d = some xs ∧ ∀ J, xs.length ≤ sizeLine ∨ (∃ z, x = .str z) → (∀ Kr, Holds H Kr f → Good K J xs Kr) → R J H
theorem pyi_seq {X : Cx} {tg : Expr} : PyI X tg (rSeq X.K) := by
  refine PyI.weak (PyI.or pyi_list (PyI.or pyi_tup pyi_str)) fun x H R q => ?_
  obtain ⟨d, f, xs, r, hi, q⟩ := q
  unfold items at hi
  split at hi
  · cases hi
    obtain ⟨a, vs, g, rfl, ha, r1, rfl⟩ := r.lst_inv
    exact .inl ⟨a, vs, rfl, .of ha, fun hz => q _ (.inl (r1.len ▸ hz)) fun Kr h => good_list (fun H' s => .of (by
      obtain ⟨o, e⟩ := h.at_ a List.mem_cons_self
      have := h.sub a o e
      rw [ha] at this; cases this
      exact s a _ e)) r1 (h.mono fun b m => List.mem_cons_of_mem _ m)⟩
  · cases hi
    obtain ⟨a, vs, rfl, ha, r1⟩ := r.tup_inv
    exact .inr (.inl ⟨a, vs, rfl, .of ha, fun hz => q _ (.inl (r1.len ▸ hz)) fun Kr h => good_tup (fun H' s => .of (s a _ (h.tup a (.t _) ha))) r1 h⟩)
  · cases hi
    rename_i ns
    cases r with
    | scrF h =>
      rename_i a
      refine .inl ⟨a, _, rfl, .inl h, fun hz => q _ (.inl (by simpa using hz)) fun Kr hh => good_list (f := []) (vs := ns.map V.int) (fun H' s => .inl ?_) (reps_ints ns) (hh.mono fun b m => by cases m)⟩
      obtain ⟨o', e⟩ := hh.at_ a List.mem_cons_self
      have := hh.sub a o' e
      rcases h with h | ⟨o, h⟩
      · rw [h] at this; cases this; exact .inl (s a _ e)
      · rw [h] at this; cases this; exact .inr ⟨o, s a _ e⟩
    | scrK h =>
      have h' : ∀ H' : Hp, SqL X.K H' _ (ns.map V.int) := fun H' => by
        rcases h with h | h
        · rcases h with h | ⟨o, h⟩ <;> cases h
        · exact .inr h
      exact .inl ⟨_, _, rfl, h' H, fun hz => q _ (.inl (by simpa using hz)) fun Kr hh => good_list (f := []) (vs := ns.map V.int) (fun H' s => h' H') (reps_ints ns) (hh.mono fun b m => by cases m)⟩
  · cases hi
    rename_i ns
    obtain ⟨a, o, rfl, ha, hd, rfl⟩ := r.ord_inv
    exact .inr (.inl ⟨a, _, rfl, sqT_frz ha, fun hz => q _ (.inl (by simpa using hz)) fun Kr h => good_tup (fun H' s => sqT_frz (s a _ (h.tup a (.f _ _) ha))) (reps_ints ns) h⟩)
  · cases hi
    exact .inr (.inr ⟨_, r.str_inv.1, q _ (.inr ⟨_, r.str_inv.1⟩) fun Kr h => good_str⟩)
  · cases hi
end DL

namespace DL
open PySem PySem.Spec PyProof.Rows L2
set_option linter.all false
set_option Elab.async false
set_option maxRecDepth 100000
set_option maxHeartbeats 1000000

/-! ## D6: pure expressions -/
structure En where
  v : List (Option D)
  ex : Value → Prop
abbrev PTr := En → DR → Prop
abbrev PTt := En → (Bool → Prop) → Prop
abbrev PTa := En → (List D → Bool → Prop) → Prop
abbrev PTi := En → (List D → Prop) → Prop
structure SP (K : PySem.W.Frag) (W : WX) (H : Hp) (η : En) (σ : L2.St) : Prop where
  len : η.v.length = σ.length
  rep : ∀ (i : Nat) (d : D), η.v[i]? = some (some d) → ∃ v f, σ[i]? = some (some v) ∧ Rep K H d v f
  exc : ∀ cls H', Sm K H H' → η.ex cls → W (cv K cls) none σ H'
  tab : TabsK K H
theorem SP.same {K : PySem.W.Frag} {W : WX} {H H' : Hp} {η : En} {σ : L2.St} (s : SP K W H η σ) (h : Sm K H H') : SP K W H' η σ :=
  ⟨s.len, fun i d e => by obtain ⟨v, f, e1, r⟩ := s.rep i d e; exact ⟨v, f, e1, r.sm h⟩, fun cls H2 s2 => s.exc cls H2 (h.trans s2), h.tab⟩
def lowP (K : PySem.W.Frag) (W : WX) (τ : PTr) : TE := fun σ H Q => ∃ η R, SP K W H η σ ∧ τ η R ∧ ∀ d o v H', R d o → Sm K H H' → Res K o H H' d v → Q v H'
def lowPT (K : PySem.W.Frag) (W : WX) (τ : PTt) : TT := fun σ H Q => ∃ η R, SP K W H η σ ∧ τ η R ∧ ∀ b H', R b → Sm K H H' → Q b H'
def DP (X : Cx) (W : WX) (e : Expr) (τ : PTr) : Prop := PE X e (lowP X.K W τ)
def DPT (X : Cx) (W : WX) (e : Expr) (τ : PTt) : Prop := PT X e (lowPT X.K W τ)
theorem PE.weak {X : Cx} {e : Expr} {t t' : TE} (h : PE X e t) (w : ∀ σ H Q, t' σ H Q → t σ H Q) : PE X e t' := ⟨fun pins s σ H Q I q => h.run pins s σ H Q I (w σ H Q q)⟩
theorem PT.weak {X : Cx} {e : Expr} {t t' : TT} (h : PT X e t) (w : ∀ σ H Q, t' σ H Q → t σ H Q) : PT X e t' := ⟨fun pins s σ H Q I q => h.run pins s σ H Q I (w σ H Q q)⟩
theorem PA.weak {X : Cx} {es : List Expr} {t t' : TA} (h : PA X es t) (w : ∀ σ H Q, t' σ H Q → t σ H Q) : PA X es t' := ⟨fun pos pins s σ H Q I q => h.run pos pins s σ H Q I (w σ H Q q)⟩
theorem PI.weak {X : Cx} {tg e : Expr} {t t' : TI} (h : PI X tg e t) (w : ∀ σ H Q, t' σ H Q → t σ H Q) : PI X tg e t' := ⟨fun pins s σ H Q I q => h.run pins s σ H Q I (w σ H Q q)⟩
theorem PS.weak {X : Cx} {e : Stmt} {t t' : TS} (h : PS X e t) (w : ∀ D σ H, t' D σ H → t D σ H) : PS X e t' := ⟨fun pins s σ H D I q => h.run pins s σ H D I (w D σ H q)⟩
theorem PSs.weak {X : Cx} {e : List Stmt} {t t' : TS} (h : PSs X e t) (w : ∀ D σ H, t' D σ H → t D σ H) : PSs X e t' := ⟨fun pins s σ H D I q => h.run pins s σ H D I (w D σ H q)⟩
theorem PE.or {X : Cx} {e : Expr} {t t' : TE} (h : PE X e t) (h' : PE X e t') : PE X e (fun σ H Q => t σ H Q ∨ t' σ H Q) :=
  ⟨fun pins s σ H Q I q => q.elim (h.run pins s σ H Q I) (h'.run pins s σ H Q I)⟩
theorem PS.or {X : Cx} {e : Stmt} {t t' : TS} (h : PS X e t) (h' : PS X e t') : PS X e (fun D σ H => t D σ H ∨ t' D σ H) :=
  ⟨fun pins s σ H Q I q => q.elim (h.run pins s σ H Q I) (h'.run pins s σ H Q I)⟩

/-! ### names, constants -/
def pName (i : Nat) : PTr := fun η R => ∃ d, η.v[i]? = some (some d) ∧ R d d.imm
def pC (d : D) : PTr := fun _ R => R d true
section
variable {X : Cx} {W : WX} {a b c : Expr} {τa τb τc : PTr} {pos : Pos}
theorem p_name {i : Nat} {e : Expr} (h : PE X e (tVar i)) : DP X W e (pName i) := by
  refine PE.weak h fun σ H Q q => ?_
  obtain ⟨η, R, s, ⟨d, e, r⟩, q⟩ := q
  obtain ⟨v, f, e1, rp⟩ := s.rep i d e
  exact ⟨v, e1, q _ _ _ _ r (Sm.refl s.tab) (Res.of_imm rp)⟩
theorem p_const {v : V} {d : D} {e : Expr} (h : PE X e (tC v)) (r : ∀ K H, Rep K H d v []) (hi : d.imm = true) : DP X W e (pC d) := by
  refine PE.weak h fun σ H Q q => ?_
  obtain ⟨η, R, s, r', q⟩ := q
  exact q _ _ _ _ r' (Sm.refl s.tab) ⟨[], Fresh.imm hi (r _ _)⟩
theorem p_int {i : Int} {j : Nat} : DP X W (.Constant (.int i) j pos) (pC (.int i)) := p_const pe_int (fun _ _ => .int i) rfl
theorem p_bl {i : Bool} {j : Nat} : DP X W (.Constant (.bool i) j pos) (pC (.bl i)) := p_const pe_bl (fun _ _ => .bl i) rfl
theorem p_non {j : Nat} : DP X W (.Constant .none j pos) (pC .non) := p_const pe_non (fun _ _ => .non) rfl
theorem p_str {x : Str} {j : Nat} : DP X W (.Constant (.str x) j pos) (pC (.str x)) := p_const pe_str (fun _ _ => .str x) rfl
theorem p_globI {x : Str} {i : Int} {t : Tok} (hg : Gl X x) (hm : X.mg x = some (.int i t)) (hd : (x == ("__debug__" : Str)) = false := by decide) : DP X W (.Name x pos) (pC (.int i)) :=
  p_const (pe_glob (v := .int i) hg hm ⟨t, rfl⟩ hd) (fun _ _ => .int i) rfl
/-! ### operators -/
def pBin (m : DM) (τa τb : PTr) : PTr := fun η R => τa η fun da _ => τb η fun db _ => m da db R
theorem low_bin {m : DM} {σ : L2.St} {H : Hp} {Q : VK} {K : PySem.W.Frag} {W : WX} (q : lowP K W (pBin m τa τb) σ H Q) : tOp (rM K m) (lowP K W τa) (lowP K W τb) σ H Q := by
  obtain ⟨η, R, s, h, q⟩ := q
  refine ⟨η, _, s, h, fun da oa x H1 hb sm rx => ⟨η, _, s.same sm, hb, fun db ob y H2 hc sm2 ry => ?_⟩⟩
  obtain ⟨f, r1⟩ := rx.rep
  obtain ⟨g, r2⟩ := ry.rep
  exact ⟨da, db, f, g, R, r1.sm sm2, r2, hc, fun d o v H' hr s3 rs => q d o v H' hr ((sm.trans sm2).thn s3) (rs.ext (sm.trans sm2))⟩
theorem p_bin {op : Operator} {m : DM} (ho : DOp X (binaryOp op) m) (ha : DP X W a τa) (hb : DP X W b τb) : DP X W (.BinOp a op b pos) (pBin m τa τb) :=
  PE.weak (pe_op ho ha hb) fun _ _ _ q => low_bin q
theorem p_cmp {op : CmpOp} {m : DM} (ho : DOp X (compareOp op) m) (ha : DP X W a τa) (hb : DP X W b τb) (hm : behindInMarks op b = false := by first | exact nomark _ | rfl) : DP X W (.Compare a [op] [b] pos) (pBin m τa τb) :=
  PE.weak (pe_cmpR ho ha hb hm) fun _ _ _ q => low_bin q
def pIx (m : DM) (τa τb : PTr) : PTr := pBin m τa τb
theorem p_ix {m : DM} (ho : DIx X m) (ha : DP X W a τa) (hb : DP X W b τb) (hs : PlainIx b := by exact fun _ _ => rfl) : DP X W (.Subscript a b pos) (pBin m τa τb) :=
  PE.weak (pe_ix ho ha hb hs) fun _ _ _ q => low_bin q
def pChain (m m' : DM) (τa τb τc : PTr) : PTr := fun η R => τa η fun da _ => τb η fun db _ => m da db fun z _ => ∃ k, z = .bl k ∧ if k = true then τc η fun dc _ => m' db dc R else R (.bl false) true
theorem p_chain {op op' : CmpOp} {m m' : DM} (ho : DOp X (compareOp op) m) (ho' : DOp X (compareOp op') m') (ha : DP X W a τa) (hb : DP X W b τb) (hc : DP X W c τc)
    (hm : lastMarks [op, op'] [b, c] = false := by with_unfolding_all rfl) : DP X W (.Compare a [op, op'] [b, c] pos) (pChain m m' τa τb τc) := by
  refine PE.weak (pe_chain ho ho' ha hb hc hm) fun σ H Q q => ?_
  obtain ⟨η, R, s, h, q⟩ := q
  refine ⟨η, _, s, h, fun da oa x H1 hb sm rx => ⟨η, _, s.same sm, hb, fun db ob y H2 hc sm2 ry => ?_⟩⟩
  obtain ⟨f, r1⟩ := rx.rep
  obtain ⟨g, r2⟩ := ry.rep
  refine ⟨da, db, f, g, _, r1.sm sm2, r2, hc, fun d o v H3 hr s3 rs => ?_⟩
  obtain ⟨k, rfl, hr⟩ := hr
  obtain ⟨_, r3⟩ := rs.rep
  refine ⟨k, r3.bl_inv.1, ?_⟩
  have s03 := (sm.trans sm2).thn s3
  cases k with
  | false => exact q _ _ _ _ hr s03 ⟨[], Fresh.imm rfl (.bl _)⟩
  | true =>
    refine ⟨η, _, s.same s03, hr, fun dc oc z H4 hm s4 rz => ?_⟩
    obtain ⟨e, r4⟩ := rz.rep
    exact ⟨db, dc, g, e, R, (r2.same s3).sm s4, r4, hm, fun d o v H' hr s5 rs => q d o v H' hr ((s03.trans s4).thn s5) (rs.ext (s03.trans s4))⟩
def pNeg (τa : PTr) : PTr := fun η R => τa η fun d _ => ∃ i, d = .int i ∧ R (.int (-i)) true
theorem p_neg (ha : DP X W a τa) : DP X W (.UnaryOp .USub a pos) (pNeg τa) := by
  refine PE.weak (pe_un un_neg ha) fun σ H Q q => ?_
  obtain ⟨η, R, s, h, q⟩ := q
  refine ⟨η, _, s, h, fun da oa x H1 hb sm rx => ?_⟩
  obtain ⟨i, rfl, hr⟩ := hb
  obtain ⟨f, r1⟩ := rx.rep
  exact ⟨i, r1.int_inv.1, q _ _ _ _ hr sm ⟨[], Fresh.imm rfl (.int _)⟩⟩
def pNot (τa : PTr) : PTr := fun η R => τa η fun d _ => ∃ i, d = .bl i ∧ R (.bl (!i)) true
theorem p_not (ha : DP X W a τa) : DP X W (.UnaryOp .Not a pos) (pNot τa) := by
  refine PE.weak (pe_not ha) fun σ H Q q => ?_
  obtain ⟨η, R, s, h, q⟩ := q
  refine ⟨η, _, s, h, fun da oa x H1 hb sm rx => ?_⟩
  obtain ⟨i, rfl, hr⟩ := hb
  obtain ⟨f, r1⟩ := rx.rep
  exact ⟨i, r1.bl_inv.1, q _ _ _ _ hr sm ⟨[], Fresh.imm rfl (.bl _)⟩⟩
def pAnd (τa τb : PTr) : PTr := fun η R => τa η fun d _ => ∃ i, d = .bl i ∧ if i = true then τb η R else R (.bl false) true
def pOr (τa τb : PTr) : PTr := fun η R => τa η fun d _ => ∃ i, d = .bl i ∧ if i = true then R (.bl true) true else τb η R
variable {rest : List Expr}
theorem p_one {op : BoolOp} (h : DP X W a τa) : DP X W (.BoolOp op [a] pos) τa := pe_one h
theorem p_and (ha : DP X W a τa) (hb : DP X W (.BoolOp .And (b :: rest) pos) τb) : DP X W (.BoolOp .And (a :: b :: rest) pos) (pAnd τa τb) := by
  refine PE.weak (pe_and ha hb) fun σ H Q q => ?_
  obtain ⟨η, R, s, h, q⟩ := q
  refine ⟨η, _, s, h, fun da oa x H1 hb sm rx => ?_⟩
  obtain ⟨i, rfl, hr⟩ := hb
  obtain ⟨f, r1⟩ := rx.rep
  refine ⟨i, r1.bl_inv.1, ?_⟩
  cases i with
  | true => exact ⟨η, R, s.same sm, hr, fun d o v H' hr s5 rs => q d o v H' hr (sm.trans s5) (rs.ext sm)⟩
  | false => exact q _ _ _ _ hr sm ⟨[], Fresh.imm rfl (.bl _)⟩
/-! ### tests -/
def tVal (τ : PTr) : PTt := fun η R => τ η fun d _ => ∃ k, d = .bl k ∧ R k
theorem low_test {t : TE} {τ : PTr} (h : ∀ σ H Q, lowP X.K W τ σ H Q → t σ H Q) {σ : L2.St} {H : Hp} {Q : Bool → Hp → Prop} (q : lowPT X.K W (tVal τ) σ H Q) : t σ H fun x H1 => ∃ c, x = .bl c ∧ Q c H1 := by
  obtain ⟨η, R, s, h1, q⟩ := q
  refine h _ _ _ ⟨η, _, s, h1, fun d o v H' hr sm rs => ?_⟩
  obtain ⟨k, rfl, hr⟩ := hr
  obtain ⟨f, r1⟩ := rs.rep
  exact ⟨k, r1.bl_inv.1, q _ _ hr sm⟩
theorem t_val {e : Expr} {τ : PTr} (h : DP X W e τ) (he : ∀ whole, isTrue e X.env whole = (do let v ← whole; standAt e.pos; holding [v] (truthy v)) := by intro _; rfl) : DPT X W e (tVal τ) :=
  PT.weak (pt_val h he) fun σ H Q q => low_test (fun _ _ _ x => x) q
theorem t_cmp {op : CmpOp} {m : DM} (ho : DOp X (compareOp op) m) (ha : DP X W a τa) (hb : DP X W b τb) (hm : behindInMarks op b = false := by first | exact nomark _ | rfl) : DPT X W (.Compare a [op] [b] pos) (tVal (pBin m τa τb)) :=
  PT.weak (pt_cmpR ho ha hb hm) fun σ H Q q => low_test (fun _ _ _ x => low_bin x) q
theorem t_chain {op op' : CmpOp} {m m' : DM} (ho : DOp X (compareOp op) m) (ho' : DOp X (compareOp op') m') (ha : DP X W a τa) (hb : DP X W b τb) (hc : DP X W c τc)
    (hm : lastMarks [op, op'] [b, c] = false := by with_unfolding_all rfl) : DPT X W (.Compare a [op, op'] [b, c] pos) (tVal (pChain m m' τa τb τc)) := by
  refine PT.weak (pt_chain ho ho' ha hb hc hm) fun σ H Q q => ?_
  obtain ⟨η, R, s, h, q⟩ := q
  refine ⟨η, _, s, h, fun da oa x H1 hb sm rx => ⟨η, _, s.same sm, hb, fun db ob y H2 hc sm2 ry => ?_⟩⟩
  obtain ⟨f, r1⟩ := rx.rep
  obtain ⟨g, r2⟩ := ry.rep
  refine ⟨da, db, f, g, _, r1.sm sm2, r2, hc, fun d o v H3 hr s3 rs => ?_⟩
  obtain ⟨k, rfl, hr⟩ := hr
  obtain ⟨_, r3⟩ := rs.rep
  refine ⟨k, r3.bl_inv.1, ?_⟩
  have s03 := (sm.trans sm2).thn s3
  cases k with
  | false =>
    obtain ⟨k', ek, hk⟩ := hr
    cases ek
    exact ⟨false, rfl, q _ _ hk s03⟩
  | true =>
    refine ⟨η, _, s.same s03, hr, fun dc oc z H4 hm s4 rz => ?_⟩
    obtain ⟨e, r4⟩ := rz.rep
    refine ⟨db, dc, g, e, _, (r2.same s3).sm s4, r4, hm, fun d o v H' hr s5 rs => ?_⟩
    obtain ⟨k, rfl, hr⟩ := hr
    obtain ⟨_, r5⟩ := rs.rep
    exact ⟨k, r5.bl_inv.1, q _ _ hr ((s03.trans s4).thn s5)⟩
def DPW (X : Cx) (W : WX) (e : Expr) (τ : PTt) : Prop := PW X e (lowPT X.K W τ)
variable {tA tB : PTt}
def tAndD (t u : PTt) : PTt := fun η R => t η fun c => if c = true then u η R else R false
def tOrD (t u : PTt) : PTt := fun η R => t η fun c => if c = true then R true else u η R
def tNotD (t : PTt) : PTt := fun η R => t η fun c => R (!c)
theorem PW.weak {X : Cx} {e : Expr} {t t' : TT} (h : PW X e t) (w : ∀ σ H Q, t' σ H Q → t σ H Q) : PW X e t' := ⟨fun wh pins s σ H Q I q => h.run wh pins s σ H Q I (w σ H Q q)⟩
theorem w_and1 (ha : DPT X W a tA) : DPW X W (.BoolOp .And [a] pos) tA := pw_and1 ha
theorem w_or1 (ha : DPT X W a tA) : DPW X W (.BoolOp .Or [a] pos) tA := pw_or1 ha
theorem w_and (ha : DPT X W a tA) (hb : DPW X W (.BoolOp .And (b :: rest) pos) tB) : DPW X W (.BoolOp .And (a :: b :: rest) pos) (tAndD tA tB) := by
  refine PW.weak (pw_and ha hb) fun σ H Q q => ?_
  obtain ⟨η, R, s, h, q⟩ := q
  refine ⟨η, _, s, h, fun c H1 hb sm => ?_⟩
  cases c with
  | true => exact ⟨η, R, s.same sm, hb, fun b H' hr s5 => q b H' hr (sm.trans s5)⟩
  | false => exact q _ _ hb sm
theorem w_or (ha : DPT X W a tA) (hb : DPW X W (.BoolOp .Or (b :: rest) pos) tB) : DPW X W (.BoolOp .Or (a :: b :: rest) pos) (tOrD tA tB) := by
  refine PW.weak (pw_or ha hb) fun σ H Q q => ?_
  obtain ⟨η, R, s, h, q⟩ := q
  refine ⟨η, _, s, h, fun c H1 hb sm => ?_⟩
  cases c with
  | false => exact ⟨η, R, s.same sm, hb, fun b H' hr s5 => q b H' hr (sm.trans s5)⟩
  | true => exact q _ _ hb sm
theorem t_w {e : Expr} (h : DPW X W e tA) : DPT X W e tA := PW.pt h
theorem t_not (ha : DPT X W a tA) : DPT X W (.UnaryOp .Not a pos) (tNotD tA) := by
  refine PT.weak (pt_not ha) fun σ H Q q => ?_
  obtain ⟨η, R, s, h, q⟩ := q
  exact ⟨η, _, s, h, fun c H1 hb sm => q _ _ hb sm⟩
def pIf (t : PTt) (τa τb : PTr) : PTr := fun η R => t η fun c => if c = true then τa η R else τb η R
end

/-! ### argument lists, displays, calls -/
def ResL (K : PySem.W.Frag) (o : Bool) (H H' : Hp) (ds : List D) (vs : List V) : Prop := match o with
  | true => ∃ f, Reps K H' ds vs f ∧ f.Nodup ∧ (∀ a ∈ f, nt H a = none) ∧ MutAll H' f
  | false => ∃ f, Reps K H' ds vs f
theorem ResL.rep {K : PySem.W.Frag} {o : Bool} {H H' : Hp} {d : List D} {v : List V} (r : ResL K o H H' d v) : ∃ f, Reps K H' d v f := by
  cases o with
  | true => obtain ⟨f, r, _⟩ := r; exact ⟨f, r⟩
  | false => exact r
theorem new_of {H0 H : Hp} (s : Ext H0 H) {a : Addr} (h : nt H a = none) : nt H0 a = none := s.free h
theorem ResL.cons {K : PySem.W.Frag} {o o' : Bool} {H H1 H2 : Hp} {d : D} {v : V} {ds : List D} {vs : List V} (s : Sm K H H1) (s2 : Sm K H1 H2) (r : Res K o H H1 d v) (t : ResL K o' H1 H2 ds vs) : ResL K (o && o') H H2 (d :: ds) (v :: vs) := by
  cases o with
  | false => obtain ⟨f, r⟩ := r.rep; obtain ⟨g, t⟩ := t.rep; exact ⟨_, .cons (r.sm s2) t⟩
  | true =>
    cases o' with
    | false => obtain ⟨f, r⟩ := r.rep; obtain ⟨g, t⟩ := t.rep; exact ⟨_, .cons (r.sm s2) t⟩
    | true =>
      obtain ⟨f, r⟩ := r
      obtain ⟨g, t, nd, nw, mu⟩ := t
      refine ⟨f ++ g, .cons (r.rep.sm s2) t, List.nodup_append.mpr ⟨r.nd, nd, fun a m b m' e => ?_⟩, fun a m => ?_, fun a m => ?_⟩
      · subst e
        exact r.mu.ntSome m (nw a m')
      · rcases List.mem_append.mp m with m | m
        · exact r.new a m
        · exact new_of s.ext (nw a m)
      · rcases List.mem_append.mp m with m | m
        · exact (r.mu.keep (.of_ext s2.ext fun b hb => Mut.nt (r.mu b hb))) a m
        · exact mu a m
theorem ResL.tup {K : PySem.W.Frag} {o : Bool} {H0 H : Hp} {p : Addr} {ds : List D} {vs : List V} (s : Sm K H0 H) (h : H p = none) (r : ResL K o H0 H ds vs) : Res K o H0 (upd H p (.tup vs)) (.tup ds) (.ref p) := by
  cases o with
  | false => obtain ⟨f, r⟩ := r; exact ⟨f, .tup upd_same (r.same (same_upd h))⟩
  | true => obtain ⟨f, r, nd, nw, mu⟩ := r; exact ⟨f, .tup upd_same (r.same (same_upd h)), nd, nw, mu.keep (.of_same (same_upd h))⟩
theorem ResL.lst {K : PySem.W.Frag} {o : Bool} {H0 H : Hp} {p : Addr} {ds : List D} {vs : List V} (s : Sm K H0 H) (h : H p = none) (r : ResL K o H0 H ds vs) : Res K o H0 (upd H p (.lst vs)) (.lst ds) (.ref p) := by
  cases o with
  | false => obtain ⟨f, r⟩ := r; exact ⟨_, .lst upd_same (r.same (same_upd h))⟩
  | true =>
    obtain ⟨f, r, nd, nw, mu⟩ := r
    refine ⟨p :: f, .lst upd_same (r.same (same_upd h)), List.nodup_cons.mpr ⟨fun m => mu.isSome m h, nd⟩, fun a m => ?_, fun a m => ?_⟩
    · rcases List.mem_cons.mp m with rfl | m
      · exact new_of s.ext (nt_of h)
      · exact nw a m
    · rcases List.mem_cons.mp m with rfl | m
      · rw [upd_same]; trivial
      · exact (mu.keep (.of_same (same_upd h))) a m
def lowPA (K : PySem.W.Frag) (W : WX) (τ : PTa) : TA := fun σ H Q => ∃ η R, SP K W H η σ ∧ τ η R ∧ ∀ ds o vs H', R ds o → Sm K H H' → ResL K o H H' ds vs → Q vs H'
def DPA (X : Cx) (W : WX) (es : List Expr) (τ : PTa) : Prop := PA X es (lowPA X.K W τ)
section
variable {X : Cx} {W : WX} {e : Expr} {es : List Expr} {τ : PTr} {τs : PTa} {pos : Pos}
def aNil : PTa := fun _ R => R [] true
def aCons (τ : PTr) (τs : PTa) : PTa := fun η R => τ η fun d o => τs η fun ds os => R (d :: ds) (o && os)
theorem a_nil : DPA X W [] aNil := PA.weak pa_nil fun σ H Q q => by
  obtain ⟨η, R, s, h, q⟩ := q
  exact q _ _ _ _ h (Sm.refl s.tab) ⟨[], .nil, List.nodup_nil, fun a m => (nomatch m), fun a m => (nomatch m)⟩
theorem a_cons (ha : DP X W e τ) (hr : DPA X W es τs) (hs : starEach (e :: es) X.env = (false, eval e X.env) :: starEach es X.env := by rfl) : DPA X W (e :: es) (aCons τ τs) :=
  PA.weak (pa_cons ha hr hs) fun σ H Q q => by
    obtain ⟨η, R, s, h, q⟩ := q
    refine ⟨η, _, s, h, fun d o v H1 hb sm rx => ⟨η, _, s.same sm, hb, fun ds os vs H2 hc sm2 ry => ?_⟩⟩
    exact q _ _ _ _ hc (sm.trans sm2) (ResL.cons sm sm2 rx ry)
def pTup (τs : PTa) : PTr := fun η R => τs η fun ds o => ds.length ≤ sizeLine ∧ R (.tup ds) o
def pLst (τs : PTa) : PTr := fun η R => τs η fun ds o => ds.length ≤ sizeLine ∧ R (.lst ds) o
theorem p_tup {x1 : Nat} (h : DPA X W es τs) : DP X W (.Tuple es x1 pos) (pTup τs) := PE.weak (pe_tup h) fun σ H Q q => by
  obtain ⟨η, R, s, h, q⟩ := q
  refine ⟨η, _, s, h, fun ds o vs H1 hb sm rx => ?_⟩
  obtain ⟨f, r⟩ := rx.rep
  exact ⟨r.len ▸ hb.1, fun p hp => q _ _ _ _ hb.2 (sm.thn (same_upd hp)) (rx.tup sm hp)⟩
theorem p_lst (h : DPA X W es τs) : DP X W (.List es pos) (pLst τs) := PE.weak (pe_lst h) fun σ H Q q => by
  obtain ⟨η, R, s, h, q⟩ := q
  refine ⟨η, _, s, h, fun ds o vs H1 hb sm rx => ?_⟩
  obtain ⟨f, r⟩ := rx.rep
  exact ⟨r.len ▸ hb.1, fun p hp => q _ _ _ _ hb.2 (sm.thn (same_upd hp)) (rx.lst sm hp)⟩
def pCall (m : DC) (τs : PTa) : PTr := fun η R => τs η fun ds _ => m ds R
variable {x : Str} {p : Pos} {id T : String} {m : DC}
theorem low_call {σ : L2.St} {H : Hp} {Q : VK} {K : PySem.W.Frag} {W : WX} (q : lowP K W (pCall m τs) σ H Q) : lowPA K W τs σ H fun vs H1 => rC K m vs H1 Q := by
  obtain ⟨η, R, s, h, q⟩ := q
  refine ⟨η, _, s, h, fun ds o vs H1 hb sm rx => ?_⟩
  obtain ⟨f, r⟩ := rx.rep
  exact ⟨ds, f, R, r, hb, fun d o v H' hr s3 rs => q d o v H' hr (sm.thn s3) (rs.ext sm)⟩
theorem p_callB (hc : DCall X (.builtin id) m) (hg : Gl X x) (hm : X.mg x = none) (hv : bootBuiltins x = some (.builtin id)) (ha : DPA X W (e :: es) τs) (hn : x ≠ "__name__" := by decide) (hdb : (x == ("__debug__" : Str)) = false := by decide)
    (he : starEach (e :: es) X.env = (false, eval e X.env) :: starEach es X.env := by rfl) (hpl : (backTo pos (starEach es X.env)).any (·.1) = false := by rfl) : DP X W (.Call (.Name x p) (e :: es) [] pos) (pCall m τs) :=
  PE.weak (pe_callB hc hg hm hv ha hn hdb he hpl) fun σ H Q q => low_call q
theorem p_callT (hc : DCall X (.type T) m) (hg : Gl X x) (hm : X.mg x = none) (hv : bootBuiltins x = some (.type T)) (ha : DPA X W (e :: es) τs) (hn : x ≠ "__name__" := by decide) (hdb : (x == ("__debug__" : Str)) = false := by decide)
    (he : starEach (e :: es) X.env = (false, eval e X.env) :: starEach es X.env := by rfl) (hpl : (backTo pos (starEach es X.env)).any (·.1) = false := by rfl) : DP X W (.Call (.Name x p) (e :: es) [] pos) (pCall m τs) :=
  PE.weak (pe_callTy hc hg hm hv ha hn hdb he hpl) fun σ H Q q => low_call q
/-- a def of the program that changes nothing: what it hands back, what it raises -/
abbrev DCX := List D → DR → (Value → Prop) → Prop
def PSp (K : PySem.W.Frag) (m : DCX) : Sp := fun vs H Q E => TabsK K H ∧ ∃ ds fs R Ex, Reps K H ds vs fs ∧ m ds R Ex ∧ (∀ d o v H', R d o → Sm K H H' → Res K o H H' d v → Q v H') ∧ ∀ cls H', Ex cls → Sm K H H' → E (cv K cls) none H'
def pCallU (m : DCX) (τs : PTa) : PTr := fun η R => τs η fun ds _ => m ds R fun _ => False
def pCallX (m : DCX) (τs : PTa) : PTr := fun η R => τs η fun ds _ => m ds R η.ex
variable {mx : DCX}
theorem p_call {k : Nat} {f : Addr} {fd : FuncData} {ps : List Str} (F : FnOk X.prog X.w X.K X.mg X.base (L2.CX X.prog X.w) k f fd ps (PSp X.K mx)) (hr : Room k X.A) (hg : Gl X x) (hm : X.mg x = some (.ref f)) (hk : PySem.W.keepIn X.K (.ref f) = true) (hb : Binds X.K fd ps [])
    (ha : DPA X W (e :: es) τs) (hdb : (x == ("__debug__" : Str)) = false := by decide) (he : starEach (e :: es) X.env = (false, eval e X.env) :: starEach es X.env := by rfl) (hpl : (backTo pos (starEach es X.env)).any (·.1) = false := by rfl) :
    DP X W (.Call (.Name x p) (e :: es) [] pos) (pCallU mx τs) :=
  PE.weak (pe_call F hr hg hm hk hb .nil passL ha hdb he hpl) fun σ H Q q => by
    obtain ⟨η, R, s, h, q⟩ := q
    refine ⟨η, _, s, h, fun ds o vs H1 hb sm rx => ?_⟩
    obtain ⟨f, r⟩ := rx.rep
    exact ⟨sm.tab, ds, f, R, fun _ => False, by simpa using r, hb, fun d o v H' hr s3 rs => q d o v H' hr (sm.trans s3) (rs.ext sm), fun _ _ z => z.elim⟩
theorem p_callX {k : Nat} {f : Addr} {fd : FuncData} {ps : List Str} (tk : Takes X W) (F : FnOk X.prog X.w X.K X.mg X.base (L2.CX X.prog X.w) k f fd ps (PSp X.K mx)) (hr : Room k X.A) (hg : Gl X x) (hm : X.mg x = some (.ref f)) (hk : PySem.W.keepIn X.K (.ref f) = true) (hb : Binds X.K fd ps [])
    (ha : DPA X W (e :: es) τs) (hdb : (x == ("__debug__" : Str)) = false := by decide) (he : starEach (e :: es) X.env = (false, eval e X.env) :: starEach es X.env := by rfl) (hpl : (backTo pos (starEach es X.env)).any (·.1) = false := by rfl) :
    DP X W (.Call (.Name x p) (e :: es) [] pos) (pCallX mx τs) :=
  PE.weak (pe_callS F hr hg hm hk hb (fun σ => passAt tk σ) ha hdb he hpl) fun σ H Q q => by
    obtain ⟨η, R, s, h, q⟩ := q
    refine ⟨η, _, s, h, fun ds o vs H1 hb sm rx => ?_⟩
    obtain ⟨f, r⟩ := rx.rep
    exact ⟨sm.tab, ds, f, R, η.ex, r, hb, fun d o v H' hr s3 rs => q d o v H' hr (sm.trans s3) (rs.ext sm), fun cls H' hx s2 => s.exc cls H' (sm.trans s2) hx⟩
end
end DL

namespace DL
open PySem PySem.Spec PyProof.Rows L2
set_option linter.all false
set_option Elab.async false
set_option maxRecDepth 100000
set_option maxHeartbeats 1000000

/-! ## D7: comprehensions, slices, dicts read -/
def wipeV (η : List (Option D)) : List Nat → List (Option D)
  | [] => η
  | v :: vs => (wipeV η vs).set v none
def wipeE (η : En) (vs : List Nat) : En := ⟨wipeV η.v vs, fun _ => False⟩
def En.set (η : En) (i : Nat) (d : D) : En := ⟨η.v.set i (some d), fun _ => False⟩
def En.noex (η : En) : En := ⟨η.v, fun _ => False⟩
theorem wipe_get (σ : L2.St) (j : Nat) : ∀ vs : List Nat, (wipe σ vs)[j]? = if j ∈ vs ∧ j < σ.length then some none else σ[j]?
  | [] => by simp [wipe]
  | v :: vs => by
    simp only [wipe, List.getElem?_set, wipe_length, wipe_get σ j vs, List.mem_cons]
    by_cases h : v = j
    · subst h
      by_cases h2 : v < σ.length
      · simp [h2]
      · simp [h2]
    · have h' : ¬ j = v := fun e => h e.symm
      simp [h, h']
theorem wipe_eq {σ σ' : L2.St} {vs : List Nat} (hl : σ'.length = σ.length) (h : ∀ j, j ∉ vs → σ'[j]? = σ[j]?) : wipe σ' vs = wipe σ vs := by
  apply List.ext_getElem?
  intro j
  rw [wipe_get, wipe_get, hl]
  by_cases hj : j ∈ vs
  · by_cases h2 : j < σ.length
    · simp [hj, h2]
    · have h3 : σ.length ≤ j := by omega
      have h4 : σ'.length ≤ j := by omega
      simp [hj, h2, List.getElem?_eq_none h3, List.getElem?_eq_none h4]
  · simp [hj, h j hj]
theorem wipe_wipe (σ : L2.St) (vs : List Nat) : wipe (wipe σ vs) vs = wipe σ vs :=
  wipe_eq (wipe_length σ vs) fun j hj => by rw [wipe_get]; simp [hj]
theorem SP.noex {K : PySem.W.Frag} {W W' : WX} {H : Hp} {η : En} {σ : L2.St} (s : SP K W H η σ) : SP K W' H η.noex σ := ⟨s.len, s.rep, (fun _ _ _ z => z.elim), s.tab⟩
theorem SP.set {K : PySem.W.Frag} {W W' : WX} {H : Hp} {η : En} {σ : L2.St} (s : SP K W H η σ) {i : Nat} {d : D} {v : V} {f : List Addr} (r : Rep K H d v f) : SP K W' H (η.set i d) (σ.set i (some v)) :=
  ⟨by simp [En.set, s.len], fun j e h => by
    simp only [En.set] at h
    rw [List.getElem?_set] at h
    by_cases hij : i = j
    · subst hij
      simp at h
      obtain ⟨h1, rfl⟩ := h
      exact ⟨v, f, by simp [← s.len, h1], r⟩
    · simp [hij] at h
      obtain ⟨v', f', e1, r'⟩ := s.rep j e h
      exact ⟨v', f', by rw [List.getElem?_set_ne hij]; exact e1, r'⟩, (fun _ _ _ z => z.elim), s.tab⟩
theorem SP.wipe {K : PySem.W.Frag} {W W' : WX} {H : Hp} {η : En} {σ : L2.St} (s : SP K W H η σ) (vs : List Nat) : SP K W' H (wipeE η vs) (wipe σ vs) := by
  have key : ∀ vs, (wipeV η.v vs).length = (L2.wipe σ vs).length ∧ ∀ (j : Nat) (e : D), (wipeV η.v vs)[j]? = some (some e) → ∃ v f, (L2.wipe σ vs)[j]? = some (some v) ∧ Rep K H e v f := by
    intro vs
    induction vs with
    | nil => exact ⟨s.len, s.rep⟩
    | cons v vs ih =>
      refine ⟨by simp [wipeV, L2.wipe, ih.1], fun j e h => ?_⟩
      simp only [wipeV, List.getElem?_set] at h
      by_cases hij : v = j
      · subst hij; simp at h
      · simp [hij] at h
        obtain ⟨v', f', e1, r'⟩ := ih.2 j e h
        exact ⟨v', f', by simp only [L2.wipe]; rw [List.getElem?_set_ne hij]; exact e1, r'⟩
  exact ⟨(key vs).1, (key vs).2, (fun _ _ _ z => z.elim), s.tab⟩
/-! ### targets -/
abbrev PTg := D → En → (En → Prop) → Prop
abbrev PTgs := List D → En → (En → Prop) → Prop
def lowPG (K : PySem.W.Frag) (W : WX) (α : PTg) (ids : List Nat) : TG := fun v σ H Q => ∃ d f η R, Rep K H d v f ∧ SP K W H η σ ∧ α d η R ∧ ∀ η' σ', R η' → SP K W H η' σ' → σ'.length = σ.length → (∀ j, j ∉ ids → σ'[j]? = σ[j]?) → Q σ' H
def lowPGs (K : PySem.W.Frag) (W : WX) (α : PTgs) (ids : List Nat) : TGs := fun v σ H Q => ∃ d f η R, Reps K H d v f ∧ SP K W H η σ ∧ α d η R ∧ ∀ η' σ', R η' → SP K W H η' σ' → σ'.length = σ.length → (∀ j, j ∉ ids → σ'[j]? = σ[j]?) → Q σ' H
def DPG (X : Cx) (W : WX) (tg : Expr) (α : PTg) (ids : List Nat) : Prop := PG X tg (lowPG X.K W α ids)
def DPGs (X : Cx) (W : WX) (tg : List Expr) (α : PTgs) (ids : List Nat) : Prop := PGs X tg (lowPGs X.K W α ids)
theorem PG.weak {X : Cx} {e : Expr} {t t' : TG} (h : PG X e t) (w : ∀ v σ H Q, t' v σ H Q → t v σ H Q) : PG X e t' := ⟨fun pins s σ H v u Q I r q => h.run pins s σ H v u Q I r (w v σ H Q q)⟩
theorem PGs.weak {X : Cx} {e : List Expr} {t t' : TGs} (h : PGs X e t) (w : ∀ v σ H Q, t' v σ H Q → t v σ H Q) : PGs X e t' := ⟨fun pins s σ H v u Q I r q => h.run pins s σ H v u Q I r (w v σ H Q q)⟩
def bName (i : Nat) : PTg := fun d η R => R (η.set i d)
def bNil : PTgs := fun ds η R => ds = [] ∧ R η
def bCons (α : PTg) (β : PTgs) : PTgs := fun ds η R => ∃ d r, ds = d :: r ∧ α d η fun η2 => β r η2 R
def bTup (n : Nat) (β : PTgs) : PTg := fun d η R => ∃ ds, d = .tup ds ∧ ds.length = n ∧ β ds η R
section
variable {X : Cx} {W : WX} {pos : Pos} {ids : List Nat}
theorem b_name {i : Nat} {x : Str} (h : PG X (.Name x pos) (gName i)) (hi : i ∈ ids := by first | simp | decide) : DPG X W (.Name x pos) (bName i) ids := PG.weak h fun v σ H Q q => by
  obtain ⟨d, f, η, R, r, s, h, q⟩ := q
  exact q _ _ h (s.set r) (by simp) fun j hj => by
    rw [List.getElem?_set_ne]
    rintro rfl
    exact hj hi
theorem b_nil : DPGs X W [] bNil ids := PGs.weak pgs_nil fun v σ H Q q => by
  obtain ⟨d, f, η, R, r, s, ⟨rfl, h⟩, q⟩ := q
  exact ⟨r.nil_inv, q _ _ h s rfl fun j hj => rfl⟩
theorem b_cons {e : Expr} {es : List Expr} {α : PTg} {β : PTgs} (h1 : DPG X W e α ids) (h2 : DPGs X W es β ids)
    (hs : (assignEach (e :: es) X.env).map (·.2) = assign e X.env :: (assignEach es X.env).map (·.2) := by rfl) : DPGs X W (e :: es) (bCons α β) ids := PGs.weak (pgs_cons h1 h2 hs) fun v σ H Q q => by
  obtain ⟨d, f, η, R, r, s, ⟨d, ds, rfl, h⟩, q⟩ := q
  cases r with
  | cons r1 r2 =>
    exact ⟨_, _, rfl, d, _, η, _, r1, s, h, fun η' σ' h' s' l u => ⟨ds, _, η', R, r2, s', h', fun η2 σ2 h2 s2 l2 u2 => q _ _ h2 s2 (l2.trans l) fun j hj => (u2 j hj).trans (u j hj)⟩⟩
theorem b_tup {es : List Expr} {k : Nat} {β : PTgs} {n : Nat} (hc : X.calm = true) (h : DPGs X W es β ids)
    (hn : (assignEach es X.env).length = n := by rfl) (hst : (assignEach es X.env).findIdx? (·.1) = none := by rfl) : DPG X W (.Tuple es k pos) (bTup n β) ids := PG.weak (pg_tup hc h hn hst) fun v σ H Q q => by
  obtain ⟨d, f, η, R, r, s, ⟨ds, rfl, hl, h⟩, q⟩ := q
  obtain ⟨a, vs, rfl, ha, r1⟩ := r.tup_inv
  exact ⟨a, vs, rfl, .of ha, r1.len ▸ hl, ds, _, η, R, r1, s, h, q⟩
end

/-! ### what a comprehension walks -/
def lowPI (K : PySem.W.Frag) (W : WX) (it : PTi) : TI := fun σ H R => ∃ η Rd, SP K W H η σ ∧ it η Rd ∧ ∀ xs J H', Rd xs → Sm K H H' → xs.length ≤ sizeLine → Good K J xs (nt H') → R J H'
def DPI (X : Cx) (W : WX) (tg e : Expr) (it : PTi) : Prop := PI X tg e (lowPI X.K W it)
def iSeq (τ : PTr) : PTi := fun η R => τ η fun d _ => ∃ xs, items d = some xs ∧ (match d with | .str z => z.length ≤ sizeLine | _ => True) ∧ R xs
section
variable {X : Cx} {W : WX} {tg e : Expr} {τ : PTr}
theorem holds_nt {H : Hp} {K : PySem.W.Frag} {d : D} {v : V} {f : List Addr} (r : Rep K H d v f) : Holds H (nt H) f :=
  ⟨nt_same H, fun a m => let ⟨u, e, _, n⟩ := r.there a m; ⟨u, nt_at e n.1⟩, fun a xs e => nt_at e xs.nt⟩
theorem i_seq (ha : DP X W e τ) : DPI X W tg e (iSeq τ) := by
  refine PI.weak (pi_of ha pyi_seq) fun σ H R q => ?_
  obtain ⟨η, Rd, s, h, q⟩ := q
  refine ⟨η, _, s, h, fun d o v H' hd sm rs => ?_⟩
  obtain ⟨xs, e1, hs, hr⟩ := hd
  obtain ⟨f, r⟩ := rs.rep
  refine ⟨d, f, xs, r, e1, fun J hz hg => q xs J H' hr sm ?_ (hg _ (holds_nt r))⟩
  rcases hz with hz | ⟨z, rfl⟩
  · exact hz
  · cases r
    simp only [items, Option.some.injEq] at e1
    subst e1
    simpa [Str.length] using hs
def iRange1 (τs : PTa) : PTi := fun η R => τs η fun ds _ => ∃ n : Int, ds = [.int n] ∧ -4611686018427387904 ≤ n ∧ n ≤ 16777216 ∧ R ((List.range n.toNat).map fun i => .int (i : Nat))
def iRange2 (τs : PTa) : PTi := fun η R => τs η fun ds _ => ∃ l n : Int, ds = [.int l, .int n] ∧ -4611686018427387904 ≤ n ∧ 0 ≤ l ∧ l ≤ 16777216 ∧ n ≤ 16777216 ∧ R ((List.range (n - l).toNat).map fun i => .int (l + (i : Nat)))
theorem good_range0 {n : Nat} {K : PySem.W.Frag} {Kr : Hp} : Good K (Itr 0 n) ((List.range n).map fun i => .int (i : Nat)) Kr := by
  have := good_range (K := K) (Kr := Kr) (lo := 0) (n := n)
  simpa using this
theorem i_range1 {a : Expr} {τs : PTa} {p pos : Pos} (hg : Gl X "range") (hm : X.mg "range" = none) (ha : DPA X W [a] τs) (hs : starEach [a] X.env = [(false, eval a X.env)] := by rfl) : DPI X W tg (.Call (.Name "range" p) [a] [] pos) (iRange1 τs) := by
  refine PI.weak (pi_range1 hg hm ha hs) fun σ H R q => ?_
  obtain ⟨η, Rd, s, h, q⟩ := q
  refine ⟨η, _, s, h, fun ds o vs H' hd sm rs => ?_⟩
  obtain ⟨n, rfl, h1, h2, hr⟩ := hd
  obtain ⟨f, r⟩ := rs.rep
  obtain ⟨v, rfl, r1⟩ := r.one_inv
  rw [r1.int_inv.1]
  exact ⟨n, rfl, by omega, by omega, q _ _ _ hr sm (by simp [sizeLine_eq]; omega) good_range0⟩
end

/-! ### comprehensions -/
abbrev turnQ (α : PTg) (cond : PTt) (τe : PTr) (vs : List Nat) (η : En) (ys : List (Option D)) (i : Nat) (x : D) : Prop :=
  α x (wipeE η vs) fun η2 => cond η2 fun b => if b = true then τe η2 fun d o' => o' = true ∧ ys[i]? = some (some d) else ys[i]? = some none
theorem lc_fin {K : PySem.W.Frag} {W : WX} {J : It} {xs : List D} {H1 : Hp} {η : En} {σ : L2.St} {α : PTg} {cond : PTt} {τe : PTr} {vs : List Nat} {ys : List (Option D)} {Q : Hp → Prop} {D1 : Addr}
    (good : Good K J xs (nt H1)) (s : SP K W H1 η σ) (hz : xs.length ≤ sizeLine) (hl : ys.length = xs.length) (ht : ∀ i x, xs[i]? = some x → turnQ α cond τe vs η ys i x) (hD : H1 D1 = none)
    (hq : ∀ H, Sm K H1 H → (∃ f, Fresh K H1 H (.lst (ys.filterMap id)) (.ref D1) f) → Q H) :
    ∃ Wi : Nat → Nat → Hp → Prop, (∃ m, Wi 0 m (upd H1 D1 (.lst []))) ∧ ∀ i m H, Wi i m H →
      (J.stop i H ∧ Q H) ∨ (J.go i H ∧ ∃ Nx : Hp → Prop, (∀ H', Nx H' → ∃ m', m' < m ∧ Wi (i + 1) m' H') ∧ ∀ x H', J.yld i H x H' → (lowPG K W α vs) x (wipe σ vs) H' fun σ2 H2 => wipe σ2 vs = wipe σ vs ∧ (lowPT K W cond) σ2 H2 fun b H3 =>
        if b = true then (lowP K W τe) σ2 H3 fun y H4 => ∃ acc, H4 D1 = some (.lst acc) ∧ acc.length < sizeLine ∧ Nx (upd H4 D1 (.lst (acc ++ [y]))) else Nx H3) := by
  let V : Nat → Hp → Prop := fun i H => i ≤ xs.length ∧ Sm K H1 H ∧ ∃ acc f, H D1 = some (.lst acc) ∧ acc.length ≤ i ∧ Reps K H ((ys.take i).filterMap id) acc f ∧ D1 ∉ f ∧ f.Nodup ∧ (∀ a ∈ f, nt H1 a = none) ∧ MutAll H f
  have step : ∀ (i : Nat) (y : Option D), i < xs.length → ys[i]? = some y → (ys.take (i + 1)).filterMap id = (ys.take i).filterMap id ++ y.toList := fun i y hi e => by
    rw [List.take_add_one, e, List.filterMap_append]
    cases y <;> rfl
  refine ⟨fun i m H => m = xs.length - i ∧ V i H, ⟨xs.length, by simp, Nat.zero_le _, Sm.of s.tab (same_upd hD), [], [], upd_same, Nat.le_refl _, .nil, List.not_mem_nil, List.nodup_nil, fun a m => (nomatch m), fun a m => (nomatch m)⟩, fun i m H hW => ?_⟩
  obtain ⟨rfl, hi, sm, acc, f, hH, hal, r, hDf, a1, a2, a3⟩ := hW
  by_cases hlt : i < xs.length
  · refine .inr ⟨good.go i H sm.ext.nt hlt, V (i + 1), fun H' hv => ⟨_, by omega, rfl, hv⟩, fun x H' hy => ?_⟩
    obtain ⟨d, g, e1, sm2, rd, _⟩ := good.yld i H x H' sm.ext.nt hlt hy
    have hturn := ht i d e1
    refine ⟨d, g, wipeE η vs, _, rd, (s.same (sm.thn sm2)).wipe vs, hturn, fun η2 σ2 hc s2 hlen hu => ⟨?_, η2, _, s2, hc, fun b H3 hb sm3 => ?_⟩⟩
    · rw [← wipe_wipe σ vs]
      exact wipe_eq hlen hu
    · have s13 := (sm.thn sm2).trans sm3
      have sH3 := (Sm.of sm.tab sm2).trans sm3
      have nL : ∀ ps, HO.lst acc ≠ .tbl ps := fun ps z => nomatch z
      cases b with
      | false =>
        have hb' : ys[i]? = some none := hb
        refine ⟨hlt, s13, acc, f, sH3.ext.at nL hH, Nat.le_succ_of_le hal, ?_, hDf, a1, a2, a3.keep (.of_ext sH3.ext fun b hb => Mut.nt (a3 b hb))⟩
        rw [step i none hlt hb']
        simpa using r.sm sH3
      | true =>
        refine ⟨η2, _, s2.same sm3, hb, fun d2 o2 v H4 hr sm4 rs => ⟨acc, (sH3.trans sm4).ext.at nL hH, by omega, ?_⟩⟩
        obtain ⟨rfl, hys⟩ := hr
        obtain ⟨g2, r2⟩ := rs
        have s14 := s13.trans sm4
        have sH4 := sH3.trans sm4
        have hD4 : H4 D1 = some (.lst acc) := sH4.ext.at nL hH
        have kp : ∀ g, D1 ∉ g → Kept H4 (upd H4 D1 (.lst (acc ++ [v]))) g := fun g hg => ⟨fun a m o e => by rw [upd_ne (show a ≠ D1 from fun z => hg (z ▸ m))]; exact e, fun a ts e => by rw [upd_ne (show a ≠ D1 from fun z => by rw [z, hD4] at e; exact tno ts e)]; exact e⟩
        have hDg : D1 ∉ g2 := fun m => by exact nt_none (r2.new _ m) (sH3.ext.at nL hH) nL
        refine ⟨hlt, ⟨fun b u e n => ?_, s14.tab.upd (fun b o n e => by rw [upd_ne n]; exact e) (fun o e => by rw [hD4] at e; cases e; exact ⟨(fun ps z => nomatch z), (fun φ z => nomatch z)⟩)⟩, acc ++ [v], f ++ g2, upd_same, by simp; omega, ?_, fun m => (List.mem_append.mp m).elim hDf hDg, List.nodup_append.mpr ⟨a1, r2.nd, fun a m b m' e => ?_⟩, fun a m => ?_, fun a m => ?_⟩
        · rw [upd_ne (ne_of_none e hD)]; exact s14.ext b u e n
        · rw [step i _ hlt hys]
          exact ((r.sm sH4).keep (kp f hDf)).app (.one (r2.rep.keep (kp g2 hDg)))
        · subst e
          exact (a3.keep (.of_ext sH3.ext fun b hb => Mut.nt (a3 b hb))).ntSome m (r2.new a m')
        · rcases List.mem_append.mp m with m | m
          · exact a2 a m
          · exact new_of s13.ext (r2.new a m)
        · rcases List.mem_append.mp m with m | m
          · exact ((a3.keep (.of_ext sH4.ext fun b hb => Mut.nt (a3 b hb))).keep (kp f hDf)) a m
          · exact (r2.mu.keep (kp g2 hDg)) a m
  · have hi' : i = xs.length := by omega
    subst hi'
    refine .inl ⟨good.stop _ H sm.ext.nt (Nat.le_refl _), hq H sm ?_⟩
    rw [List.take_of_length_le (by omega)] at r
    exact ⟨D1 :: f, .lst hH r, List.nodup_cons.mpr ⟨hDf, a1⟩, fun a m => (List.mem_cons.mp m).elim (fun e => e ▸ nt_of hD) (a2 a), fun a m => (List.mem_cons.mp m).elim (fun e => by rw [e, hH]; trivial) (a3 a)⟩
def pLc (it : PTi) (α : PTg) (cond : PTt) (τe : PTr) (vs : List Nat) : PTr := fun η R => it η fun xs => ∃ ys : List (Option D), ys.length = xs.length ∧ (∀ (i : Nat) (x : D), xs[i]? = some x → turnQ α cond τe vs η ys i x) ∧ R (.lst (ys.filterMap id)) true
def tYesD : PTt := fun _ R => R true
section
variable {X : Cx} {W : WX}
def DPTs (X : Cx) (W : WX) (ifs : List Expr) (τ : PTt) : Prop := PTs X ifs (lowPT X.K W τ)
theorem PTs.weak {X : Cx} {e : List Expr} {t t' : TT} (h : PTs X e t) (w : ∀ σ H Q, t' σ H Q → t σ H Q) : PTs X e t' := ⟨fun pins s σ H Q I q => h.run pins s σ H Q I (w σ H Q q)⟩
theorem ts_nil : DPTs X W [] tYesD := PTs.weak pts_nil fun σ H Q q => by
  obtain ⟨η, R, s, h, q⟩ := q
  exact q _ _ h (Sm.refl s.tab)
theorem ts_one {c : Expr} {t : PTt} (h : DPT X W c t) : DPTs X W [c] t := pts_one h
theorem p_lc {elt tg iter : Expr} {ifs : List Expr} {scope : Scope} {own : List (Str × Nat)} {pos : Pos} {it : PTi} {α : PTg} {cond : PTt} {τe : PTr} (hc : X.calm = true) (hN : X.N.Nodup) (hi : DPI X W tg iter it) (ok : BlkOk X.N X.env.scope scope own)
    (hg : ∀ (s : Shared) (H : Hp) (C : Addr) (cl : List (Str × Addr)) (fp : List Addr), DPG (X.blk s H scope (compEnvC scope cl C X.env) fp) W tg α (own.map (·.2))) (ht : ∀ (s : Shared) (H : Hp) (C : Addr) (cl : List (Str × Addr)) (fp : List Addr), DPTs (X.blk s H scope (compEnvC scope cl C X.env) fp) W ifs cond)
    (he : ∀ (s : Shared) (H : Hp) (C : Addr) (cl : List (Str × Addr)) (fp : List Addr), DP (X.blk s H scope (compEnvC scope cl C X.env) fp) W elt τe) (hs : ∀ x, foldedSetIterable iter X.env x = pure x := by intro _; rfl) :
    DP X W (.ListComp elt [⟨tg, iter, ifs, 0⟩] scope pos) (pLc it α cond τe (own.map (·.2))) := by
  refine PE.weak (pe_lc (g := lowPG X.K W α (List.map (fun x : Str × Nat => x.2) own)) (tt := lowPT X.K W cond) (te := lowP X.K W τe) hc hN hi ok hg ht he hs) fun σ H Q q => ?_
  obtain ⟨η, R, s, h, q⟩ := q
  refine ⟨η, _, s, h, fun xs J H1 hb sm hz good D1 hD => ?_⟩
  obtain ⟨ys, hl, hturn, hr⟩ := hb
  exact lc_fin good (s.same sm) hz hl hturn hD fun H2 s2 ⟨f, fr⟩ => q _ _ _ _ hr (sm.trans s2) ⟨f, fr.ext sm⟩
/-- over a dict that has a name -/
def pLcD (i : Nat) (α : PTg) (cond : PTt) (τe : PTr) (vs : List Nat) : PTr := fun η R => ∃ d xs, η.v[i]? = some (some d) ∧ (match d with | .dK kvs => xs = kvs.map fun kv => kD kv.1 | .dT kvs => xs = kvs.map fun kv => kTD kv.1 | _ => False) ∧
  ∃ ys : List (Option D), ys.length = xs.length ∧ (∀ (i : Nat) (x : D), xs[i]? = some x → turnQ α cond τe vs η ys i x) ∧ R (.lst (ys.filterMap id)) true
end
/-- a dict under its lock, and out of it -/
def isDic : HO → Bool
  | .dK _ => true
  | .dT _ => true
  | .frz _ (.dK _) => true
  | .frz _ (.dT _) => true
  | _ => false
structure Relock (H H' : Hp) : Prop where
  k : ∀ b es, Rd H b (.dK es) → Rd H' b (.dK es)
  t : ∀ b es, Rd H b (.dT es) → Rd H' b (.dT es)
  pl : ∀ b w, isDic w = false → H b = some w → H' b = some w
mutual
theorem Rep.relock {K : PySem.W.Frag} {H H' : Hp} {d : D} {v : V} {fp : List Addr} : Rep K H d v fp → Relock H H' → Rep K H' d v fp
  | .non, _ => .non
  | .bl _, _ => .bl _
  | .int _, _ => .int _
  | .str _, _ => .str _
  | .tup h r, k => .tup (k.pl _ _ rfl h) (r.relock k)
  | .lst h r, k => .lst (k.pl _ _ rfl h) (r.relock k)
  | .dK h hk nd r, k => .dK (k.k _ _ h) hk nd (r.relock k)
  | .dT h hk nd r, k => .dT (k.t _ _ h) hk nd (r.relock k)
  | .ins hc h hk r, k => .ins hc (k.pl _ _ rfl h) hk (r.relock k)
  | .scrF h, k => .scrF (h.imp (k.pl _ _ rfl) fun ⟨o, e⟩ => ⟨o, k.pl _ _ rfl e⟩)
  | .scrK h, k => .scrK h
  | .ord h hd, k => .ord (k.pl _ _ rfl h) hd
  | .ptr _, _ => .ptr _
  | .fl h r, k => .fl (k.pl _ _ rfl h) (r.relock k)
theorem Reps.relock {K : PySem.W.Frag} {H H' : Hp} {d : List D} {v : List V} {fp : List Addr} : Reps K H d v fp → Relock H H' → Reps K H' d v fp
  | .nil, _ => .nil
  | .cons h t, k => .cons (h.relock k) (t.relock k)
end
theorem relock_lock {H : Hp} {a : Addr} {o : Obj} {u : HO} (h : H a = some u) (hu : (∃ es, u = .dK es) ∨ ∃ es, u = .dT es) : Relock H (upd H a (.frz o u)) where
  k := fun b es q => by
    by_cases e : b = a
    · subst e
      rcases q with q | ⟨o', q⟩ <;> (rw [h] at q; cases q)
      · exact .inr ⟨o, upd_same⟩
      · rcases hu with ⟨es, e⟩ | ⟨es, e⟩ <;> cases e
    · rcases q with q | ⟨o', q⟩
      · exact .inl (by rw [upd_ne e]; exact q)
      · exact .inr ⟨o', by rw [upd_ne e]; exact q⟩
  t := fun b es q => by
    by_cases e : b = a
    · subst e
      rcases q with q | ⟨o', q⟩ <;> (rw [h] at q; cases q)
      · exact .inr ⟨o, upd_same⟩
      · rcases hu with ⟨es, e⟩ | ⟨es, e⟩ <;> cases e
    · rcases q with q | ⟨o', q⟩
      · exact .inl (by rw [upd_ne e]; exact q)
      · exact .inr ⟨o', by rw [upd_ne e]; exact q⟩
  pl := fun b w hw e => by
    rw [upd_ne]
    · exact e
    · rintro rfl
      rw [h] at e; cases e
      rcases hu with ⟨es, rfl⟩ | ⟨es, rfl⟩ <;> cases hw
theorem SP.relock {K : PySem.W.Frag} {W W' : WX} {H H' : Hp} {η : En} {σ : L2.St} (s : SP K W H η σ) (h : Relock H H') (t : TabsK K H') : SP K W' H' η.noex σ :=
  ⟨s.len, fun i d e => by obtain ⟨v, f, e1, r⟩ := s.rep i d e; exact ⟨v, f, e1, r.relock h⟩, (fun _ _ _ z => z.elim), t⟩
section
variable {X : Cx} {W : WX}
theorem p_lcD {elt tg : Expr} {ifs : List Expr} {scope : Scope} {own : List (Str × Nat)} {pos np : Pos} {x : Str} {i : Nat} {α : PTg} {cond : PTt} {τe : PTr} (hc : X.calm = true) (hN : X.N.Nodup) (hx : PE X (.Name x np) (tVar i)) (ok : BlkOk X.N X.env.scope scope own)
    (hg : ∀ (s : Shared) (H : Hp) (C : Addr) (cl : List (Str × Addr)) (fp : List Addr), DPG (X.blk s H scope (compEnvC scope cl C X.env) fp) W tg α (own.map (·.2))) (ht : ∀ (s : Shared) (H : Hp) (C : Addr) (cl : List (Str × Addr)) (fp : List Addr), DPTs (X.blk s H scope (compEnvC scope cl C X.env) fp) W ifs cond)
    (he : ∀ (s : Shared) (H : Hp) (C : Addr) (cl : List (Str × Addr)) (fp : List Addr), DP (X.blk s H scope (compEnvC scope cl C X.env) fp) W elt τe) (hs : ∀ y, foldedSetIterable (.Name x np) X.env y = pure y := by intro _; rfl) :
    DP X W (.ListComp elt [⟨tg, .Name x np, ifs, 0⟩] scope pos) (pLcD i α cond τe (own.map (·.2))) := by
  have base := pe_lc (pos := pos) (ifs := ifs) (g := lowPG X.K W α (List.map (fun x : Str × Nat => x.2) own)) (tt := lowPT X.K W cond) (te := lowP X.K W τe) hc hN (pi_of (tg := tg) hx pyi_keys) ok hg ht he hs
  refine PE.weak (PE.or (pe_lock base) base) fun σ H Q q => ?_
  obtain ⟨η, R, s, ⟨d, xs, e, hd, ys, hl, hturn, hr⟩, q⟩ := q
  obtain ⟨v, f, ev, r⟩ := s.rep i d e
  have main : ∀ (H1 : Hp) (J : It) (a : Addr) (o : Obj) (u : HO) (Q' : VK), H1 a = some (.frz o u) → Good X.K J xs (nt H1) → SP X.K W H1 η.noex σ → xs.length ≤ sizeLine → (∀ (p : Addr) (H2 : Hp), Sm X.K H1 H2 → (∃ f, Fresh X.K H1 H2 (.lst (ys.filterMap id)) (.ref p) f) → Q' (.ref p) H2) →
      ∀ D1, H1 D1 = none → ∃ Wi : Nat → Nat → Hp → Prop, (∃ m, Wi 0 m (upd H1 D1 (.lst []))) ∧ ∀ i m H, Wi i m H →
      (J.stop i H ∧ Q' (.ref D1) H) ∨ (J.go i H ∧ ∃ Nx : Hp → Prop, (∀ H', Nx H' → ∃ m', m' < m ∧ Wi (i + 1) m' H') ∧ ∀ x H', J.yld i H x H' → (lowPG X.K W α (own.map (·.2))) x (wipe σ (own.map (·.2))) H' fun σ2 H2 => wipe σ2 (own.map (·.2)) = wipe σ (own.map (·.2)) ∧ (lowPT X.K W cond) σ2 H2 fun b H3 =>
        if b = true then (lowP X.K W τe) σ2 H3 fun y H4 => ∃ acc, H4 D1 = some (.lst acc) ∧ acc.length < sizeLine ∧ Nx (upd H4 D1 (.lst (acc ++ [y]))) else Nx H3) :=
    fun H1 J a o u Q' h1 good s1 hz hq D1 hD => lc_fin (η := η.noex) good s1 hz hl hturn hD fun H2 s2 ⟨f, fr⟩ => hq _ _ s2 ⟨f, fr⟩
  have dict : ∃ a u, v = .ref a ∧ Rd H a u ∧ ((∃ es, u = .dK es) ∨ ∃ es, u = .dT es) ∧ ∀ (H1 : Hp) (o : Obj), H1 a = some (.frz o u) → ∀ R : It → Hp → Prop, (∀ J, Good X.K J xs (nt H1) → xs.length ≤ sizeLine → R J H1) →
      ∃ d o, v = .ref d ∧ ((∃ kvs, H1 d = some (.frz o (.dK kvs)) ∧ (kvs.length ≤ sizeLine → R (Itk d o kvs) H1)) ∨ ∃ kvs, H1 d = some (.frz o (.dT kvs)) ∧ (kvs.length ≤ sizeLine → R (Itkt d o kvs) H1)) := by
    split at hd
    · subst hd
      obtain ⟨a, es, g, rfl, ha, hk, r1, rfl⟩ := r.dK_inv
      exact ⟨a, _, rfl, ha, .inl ⟨es, rfl⟩, fun H1 o h1 R hR => ⟨a, o, rfl, .inl ⟨es, h1, fun hz => hR _ (good_keys hk (nt_at h1 fun ps z => nomatch z)) (by rw [List.length_map, keys_len (K := X.K) (H := H) hk]; exact hz)⟩⟩⟩
    · subst hd
      obtain ⟨a, es, g, rfl, ha, hk, r1, rfl⟩ := r.dT_inv
      exact ⟨a, _, rfl, ha, .inr ⟨es, rfl⟩, fun H1 o h1 R hR => ⟨a, o, rfl, .inr ⟨es, h1, fun hz => hR _ (good_keysT hk (nt_at h1 fun ps z => nomatch z)) (by rw [List.length_map, keys_len (K := X.K) (H := H) hk]; exact hz)⟩⟩⟩
    · exact hd.elim
  obtain ⟨a, u, rfl, ha, hu, walk⟩ := dict
  have walk' : ∀ (H1 : Hp) (o : Obj), H1 a = some (.frz o u) → ∀ R : It → Hp → Prop, (∀ J, Good X.K J xs (nt H1) → xs.length ≤ sizeLine → R J H1) →
      (iVal (tVar i) (fun x H R => ∃ d o, x = .ref d ∧ ((∃ kvs, H d = some (.frz o (.dK kvs)) ∧ (kvs.length ≤ sizeLine → R (Itk d o kvs) H)) ∨ ∃ kvs, H d = some (.frz o (.dT kvs)) ∧ (kvs.length ≤ sizeLine → R (Itkt d o kvs) H)))) σ H1 R :=
    fun H1 o h R hR => ⟨.ref a, ev, walk H1 o h R hR⟩
  have pu : Plain u := by rcases hu with ⟨es, rfl⟩ | ⟨es, rfl⟩ <;> exact ⟨(fun ps z => nomatch z), (fun φ z => nomatch z)⟩
  have mu : Mut (some u) := by rcases hu with ⟨es, rfl⟩ | ⟨es, rfl⟩ <;> trivial
  rcases ha with ha | ⟨o, ha⟩
  · refine .inl ⟨a, u, ha, mu, fun od => walk' _ od upd_same _ fun J good hz => main _ J a od u (fun v H' => H' a = some (.frz od u) ∧ Q v (upd H' a u)) upd_same good (s.relock (relock_lock ha hu) (s.tab.upd (p := a) (fun b o n e => by rw [upd_ne n]; exact e) (fun o e => by rw [ha] at e; cases e; exact pu))) hz fun p H2 s2 ⟨f2, fr⟩ => ?_⟩
    have h2 : H2 a = some (.frz od u) := s2.ext.at (fun ps z => nomatch z) upd_same
    have ha2 : a ∉ f2 := fun m => nt_none (fr.new a m) upd_same fun ps z => nomatch z
    have kp : Kept H2 (upd H2 a u) f2 := ⟨fun b m o e => by rw [upd_ne (show b ≠ a from fun z => ha2 (z ▸ m))]; exact e, fun b ts e => by rw [upd_ne (show b ≠ a from fun z => by rw [z, h2] at e; exact tno ts e (by rcases hu with ⟨es, rfl⟩ | ⟨es, rfl⟩ <;> exact fun z => z))]; exact e⟩
    have sm : Sm X.K H (upd H2 a u) := ⟨fun b w e n => by
      by_cases hb : b = a
      · subst hb; rw [ha] at e; cases e; exact upd_same
      · rw [upd_ne hb]; exact s2.ext b w (by rw [upd_ne hb]; exact e) n, s2.tab.upd (p := a) (fun b o n e => by rw [upd_ne n]; exact e) (fun o e => by rw [h2] at e; cases e; exact ⟨(fun ps z => nomatch z), (fun φ z => nomatch z)⟩)⟩
    refine ⟨h2, q _ _ _ _ hr sm ⟨f2, fr.rep.keep kp, fr.nd, fun b m => ?_, fr.mu.keep kp⟩⟩
    have := fr.new b m
    unfold nt at this ⊢
    rwa [upd_ne (show b ≠ a from fun z => ha2 (z ▸ m))] at this
  · exact .inr (walk' H o ha _ fun J good hz => main H J a o u Q ha good s.noex hz fun p H2 s2 ⟨f2, fr⟩ => q _ _ _ _ hr s2 ⟨f2, fr⟩)
end

/-! ### slices -/
def cutA {α : Type} (xs : List α) (lo hi : Option Int) : List α := (xs.drop (HT.sIx xs.length 0 lo)).take (HT.sIx xs.length xs.length hi - HT.sIx xs.length 0 lo)
theorem Reps.drop {K : PySem.W.Frag} {H : Hp} {ds : List D} {vs : List V} {f : List Addr} (n : Nat) (r : Reps K H ds vs f) : ∃ g, Reps K H (ds.drop n) (vs.drop n) g := by
  induction n generalizing ds vs f with
  | zero => exact ⟨f, r⟩
  | succ n ih =>
    cases r with
    | nil => exact ⟨[], .nil⟩
    | cons h t => simpa using ih t
theorem Reps.take {K : PySem.W.Frag} {H : Hp} {ds : List D} {vs : List V} {f : List Addr} (n : Nat) (r : Reps K H ds vs f) : ∃ g, Reps K H (ds.take n) (vs.take n) g := by
  induction n generalizing ds vs f with
  | zero => exact ⟨[], .nil⟩
  | succ n ih =>
    cases r with
    | nil => exact ⟨[], .nil⟩
    | cons h t =>
      obtain ⟨g, t'⟩ := ih t
      exact ⟨_, by simpa using Reps.cons h t'⟩
theorem Reps.cut {K : PySem.W.Frag} {H : Hp} {ds : List D} {vs : List V} {f : List Addr} (r : Reps K H ds vs f) (lo hi : Option Int) : ∃ g, Reps K H (cutA ds lo hi) (cutV vs lo hi) g := by
  unfold cutA cutV
  rw [← r.len]
  obtain ⟨g, r1⟩ := r.drop (HT.sIx ds.length 0 lo)
  exact r1.take _
theorem cutA_map {α β : Type} (f : α → β) (xs : List α) (lo hi : Option Int) : cutA (xs.map f) lo hi = (cutA xs lo hi).map f := by
  unfold cutA; simp
def slM (d : D) (lo hi : Option Int) (R : DR) : Prop := match d with
  | .lst xs => R (.lst (cutA xs lo hi)) (immL (cutA xs lo hi))
  | .tup xs => R (.tup (cutA xs lo hi)) (immL (cutA xs lo hi))
  | .scr ns => R (.lst ((cutA ns lo hi).map .int)) true
  | .ord ns => R (.ord (cutA ns lo hi)) true
  | _ => False
def rSlD (K : PySem.W.Frag) : V → Option Int → Option Int → Hp → VK → Prop := fun x lo hi H Q => ∃ d f R, Rep K H d x f ∧ slM d lo hi R ∧ ∀ d o v H', R d o → Same H H' → Res K o H H' d v → Q v H'
theorem SlR.weak {X : Cx} {r r' : V → Option Int → Option Int → Hp → VK → Prop} (h : SlR X r) (w : ∀ x lo hi H Q, r' x lo hi H Q → r x lo hi H Q) : SlR X r' :=
  fun pins s σ H x v vl vu lo hi sl Q I r h1 h2 h3 q => h pins s σ H x v vl vu lo hi sl Q I r h1 h2 h3 (w _ _ _ _ _ q)
theorem cutA_whole {α : Type} {xs : List α} {lo hi : Option Int} (h : HT.sIx xs.length 0 lo = 0 ∧ HT.sIx xs.length xs.length hi = xs.length) : cutA xs lo hi = xs := by
  unfold cutA
  rw [h.1, h.2]; simp
theorem d_slice {X : Cx} : SlR X (rSlD X.K) := by
  refine SlR.weak (L2.SlR.or sl_list (L2.SlR.or sl_tupA sl_tupF)) fun x lo hi H Q q => ?_
  obtain ⟨d, f, R, r, hm, q⟩ := q
  unfold slM at hm
  split at hm
  · obtain ⟨a, vs, g, rfl, ha, r1, rfl⟩ := r.lst_inv
    obtain ⟨g2, r2⟩ := r1.cut lo hi
    exact .inl ⟨a, vs, rfl, .of ha, fun p hp => q _ _ _ _ hm (same_upd hp) (res_lst hp r2)⟩
  · obtain ⟨a, vs, rfl, ha, r1⟩ := id r.tup_inv
    obtain ⟨g2, r2⟩ := r1.cut lo hi
    refine .inr (.inl ⟨a, vs, rfl, .of ha, fun hw => ?_, fun _ p hp => q _ _ _ _ hm (same_upd hp) (res_tup hp r2)⟩)
    rw [← r1.len] at hw
    rw [cutA_whole hw] at hm
    exact q _ _ _ _ hm (Same.refl H) (by simpa [D.imm] using Res.of_imm (K := X.K) (H := H) r)
  · obtain ⟨a, rfl, ha⟩ := r.scr_inv
    rename_i ns
    refine .inl ⟨a, _, rfl, ha, fun p hp => q _ _ _ _ hm (same_upd hp) ?_⟩
    obtain ⟨g2, r2⟩ := (reps_ints (K := X.K) (H := H) ns).cut lo hi
    have := res_lst hp r2
    rw [cutA_map, immL_ints] at this
    exact this
  · rename_i ns
    obtain ⟨a, o, rfl, ha, hd, _⟩ := r.ord_inv
    refine .inr (.inr ⟨a, _, rfl, sqT_frz ha, fun hw => ?_, fun _ p o2 hd2 hp => q _ _ _ _ hm (same_upd hp) (res_ord hp hd2 (cutA_map _ _ _ _))⟩)
    rw [List.length_map] at hw
    rw [cutA_whole hw] at hm
    exact q _ _ _ _ hm (Same.refl H) ⟨[], Fresh.imm rfl (.ord ha hd)⟩
  · exact hm.elim
abbrev PTo := En → (Option Int → Prop) → Prop
def lowPO (K : PySem.W.Frag) (W : WX) (τ : PTo) : TO := fun σ H Q => ∃ η R, SP K W H η σ ∧ τ η R ∧ ∀ o H', R o → Sm K H H' → Q o H'
def DPO (X : Cx) (W : WX) (e : Option Expr) (τ : PTo) : Prop := PO X e (lowPO X.K W τ)
theorem PO.weak {X : Cx} {e : Option Expr} {t t' : TO} (h : PO X e t) (w : ∀ σ H Q, t' σ H Q → t σ H Q) : PO X e t' := ⟨fun pins s σ H Q I q => h.run pins s σ H Q I (w σ H Q q)⟩
def oNone : PTo := fun _ R => R none
def oSome (τ : PTr) : PTo := fun η R => τ η fun d _ => ∃ i, d = .int i ∧ R (some i)
section
variable {X : Cx} {W : WX} {e : Expr} {τ : PTr} {lo hi : Option Expr} {tl th : PTo} {pos p2 : Pos}
theorem o_none : DPO X W none oNone := PO.weak po_none fun σ H Q q => by
  obtain ⟨η, R, s, h, q⟩ := q
  exact q _ _ h (Sm.refl s.tab)
theorem o_some (h : DP X W e τ) : DPO X W (some e) (oSome τ) := PO.weak (po_some h) fun σ H Q q => by
  obtain ⟨η, R, s, h, q⟩ := q
  refine ⟨η, _, s, h, fun d o v H' hd sm rs => ?_⟩
  obtain ⟨i, rfl, hr⟩ := hd
  obtain ⟨f, r⟩ := rs.rep
  exact ⟨i, r.int_inv.1, q _ _ hr sm⟩
def pSl (τ : PTr) (tl th : PTo) : PTr := fun η R => τ η fun d _ => tl η fun l => th η fun u => slM d l u R
theorem p_slice (he : DP X W e τ) (hl : DPO X W lo tl) (hu : DPO X W hi th) : DP X W (.Subscript e (.Slice lo hi none p2) pos) (pSl τ tl th) := PE.weak (pe_slice d_slice he hl hu) fun σ H Q q => by
  obtain ⟨η, R, s, h, q⟩ := q
  refine ⟨η, _, s, h, fun d o v H1 hd sm rs => ⟨η, _, s.same sm, hd, fun l H2 hl sm2 => ⟨η, _, s.same (sm.trans sm2), hl, fun u H3 hu sm3 => ?_⟩⟩⟩
  obtain ⟨f, r⟩ := rs.rep
  have s13 := (sm.trans sm2).trans sm3
  exact ⟨d, f, R, r.sm (sm2.trans sm3), hu, fun d o v H' hr s4 rs => q d o v H' hr (s13.thn s4) (rs.ext s13)⟩

end
end DL

namespace DL
open PySem PySem.Spec PyProof.Rows L2
set_option linter.all false
set_option Elab.async false
set_option maxRecDepth 100000
set_option maxHeartbeats 1000000

/-! ## D8: more pure expressions -/
def D.isDict : D → Bool
  | .dK _ => true
  | .dT _ => true
  | _ => false
def pGet1 (τd τk : PTr) : PTr := fun η R => τd η fun d _ => d.isDict = true ∧ τk η fun k _ => lookM d k fun o => match o with
  | some d => R d d.imm
  | none => R .non true
def pGet2 (τd τk τx : PTr) : PTr := fun η R => τd η fun d _ => d.isDict = true ∧ τk η fun k _ => τx η fun x ox => lookM d k fun o => match o with
  | some d => R d d.imm
  | none => R x ox
section
variable {X : Cx} {W : WX} {e : Expr} {τ : PTr} {pos p2 : Pos} {o f : Expr} {apos cpos : Pos} {τd τk τx : PTr}
/-! ### list(range(..)), tuple(range(..)) -/
def rgL (a b : Int) : List D := (List.range (b - a).toNat).map fun i => .int (a + (i : Nat))
def pRg1 (mk : List D → D) (τ : PTr) : PTr := fun η R => τ η fun d _ => ∃ n : Int, d = .int n ∧ -4611686018427387904 ≤ n ∧ n ≤ 16777216 ∧ R (mk ((List.range n.toNat).map fun i => .int (i : Nat))) true
def pRg2 (mk : List D → D) (τ τ' : PTr) : PTr := fun η R => τ η fun d _ => τ' η fun d' _ => ∃ a n : Int, d = .int a ∧ d' = .int n ∧ 0 ≤ a ∧ a ≤ 16777216 ∧ -4611686018427387904 ≤ n ∧ n ≤ 16777216 ∧ R (mk (rgL a n)) true
theorem rgV_map (a b : Int) : rgV a b = ((List.range (b - a).toNat).map fun i => a + (i : Nat)).map V.int := by
  unfold rgV; rw [List.map_map]; rfl
theorem rgL_map (a b : Int) : rgL a b = ((List.range (b - a).toNat).map fun i => a + (i : Nat)).map D.int := by
  unfold rgL; rw [List.map_map]; rfl
theorem rgL_0 (n : Int) : rgL 0 n = (List.range n.toNat).map fun i => .int (i : Nat) := by
  unfold rgL; simp
theorem res_rgl {K : PySem.W.Frag} {H : Hp} {p : Addr} (a b : Int) (hp : H p = none) : Res K true H (upd H p (.lst (rgV a b))) (.lst (rgL a b)) (.ref p) := by
  rw [rgV_map, rgL_map]
  have := res_lst hp (reps_ints (K := K) (H := H) ((List.range (b - a).toNat).map fun i => a + (i : Nat)))
  rwa [immL_ints] at this
variable {p : Pos} {a b : Expr}
theorem p_listRg1 (hc : X.calm = true) (hg : Gl X "list") (hm : X.mg "list" = none) (hg2 : Gl X "range") (hm2 : X.mg "range" = none) (ha : DP X W a τ)
    (na : starEach [.Call (.Name "range" p2) [a] [] cpos] X.env = (false, eval (.Call (.Name "range" p2) [a] [] cpos) X.env) :: starEach [] X.env := by rfl) (na2 : starEach [a] X.env = (false, eval a X.env) :: starEach [] X.env := by rfl) :
    DP X W (.Call (.Name "list" p) [.Call (.Name "range" p2) [a] [] cpos] [] pos) (pRg1 .lst τ) :=
  PE.weak (pe_listRg hc hg hm (prg_1 hg2 hm2 ha na2) na) fun σ H Q q => by
    obtain ⟨η, R, s, h, q⟩ := q
    refine ⟨η, _, s, h, fun d o v H1 hd sm rs => ?_⟩
    obtain ⟨n, rfl, h1, h2, hr⟩ := hd
    obtain ⟨f, r⟩ := rs.rep
    refine ⟨n, r.int_inv.1, ⟨by omega, by omega, by omega, by omega, by omega⟩, fun l hl => q _ _ _ _ hr (sm.thn (same_upd hl)) ?_⟩
    rw [← rgL_0]
    exact (res_rgl 0 n hl).ext sm
/-! ### isinstance -/
def D.tyN : D → Option String
  | .non => some "NoneType" | .bl _ => some "bool" | .int _ => some "int" | .str _ => some "str"
  | .tup _ => some "tuple" | .ord _ => some "tuple" | .lst _ => some "list" | .fl _ => some "list" | .scr _ => some "list" | .dK _ => some "dict"
  | _ => none
def isT (a b : String) : Bool := a == b || (a == "bool" && b == "int")
theorem ty_of {K : PySem.W.Frag} {H : Hp} {d : D} {v : V} {f : List Addr} {t : String} (r : Rep K H d v f) (h : d.tyN = some t) : TyX K H v (.type t) := by
  cases r with
  | non => cases h; exact .base .non
  | bl b => cases h; exact .base (.bl b)
  | int b => cases h; exact .base (.int b)
  | str b => cases h; exact .base (.str b)
  | tup ha _ => cases h; exact .base (.tup ha)
  | lst ha _ => cases h; exact .base (.lst ha)
  | dK ha _ _ _ =>
    cases h
    rcases ha with ha | ⟨o, ha⟩
    · exact .base (.dK ha)
    · exact .fDict ha
  | dT _ _ _ _ => cases h
  | ins _ _ _ => cases h
  | ptr _ => cases h
  | scrF ha =>
    cases h
    rcases ha with ha | ⟨o, ha⟩
    · exact .base (.lst ha)
    · exact .base (.frz ha)
  | ord ha _ => cases h; exact .fTuple ha
  | fl ha _ => cases h; exact .base (.frz ha)
  | scrK ha =>
    cases h
    rcases ha with ha | ⟨o, its, n, h1, h2, _⟩
    · rcases ha with ha | ⟨_, ha⟩ <;> cases ha
    · exact .kList h1 h2
def pIsi (n : String) (τ : PTr) : PTr := fun η R => τ η fun d _ => ∃ t, d.tyN = some t ∧ R (.bl (isT t n)) true
theorem tyN_in {d : D} {t : String} (h : d.tyN = some t) : t ∈ ["NoneType", "bool", "int", "str", "tuple", "list", "dict"] := by
  cases d <;> simp [D.tyN] at h <;> subst h <;> simp
theorem p_isi {n : String} {c : Expr} (hg : Gl X "isinstance") (hm : X.mg "isinstance" = none) (h : DP X W e τ) (hT : PE X c (tC (.ty n))) (hk : ∀ t ∈ ["NoneType", "bool", "int", "str", "tuple", "list", "dict"], kitB t n = some (isT t n) := by decide +kernel)
    (he : starEach (e :: [c]) X.env = (false, eval e X.env) :: starEach [c] X.env := by rfl) (he2 : starEach (c :: []) X.env = (false, eval c X.env) :: starEach [] X.env := by rfl) (hpl : (backTo pos (starEach [c] X.env)).any (·.1) = false := by rfl) :
    DP X W (.Call (.Name "isinstance" p) [e, c] [] pos) (pIsi n τ) :=
  PE.weak (pe_callB call_isi hg hm (by decide +kernel) (pa_cons h (pa_cons hT pa_nil he2) he) (by decide) (by decide) he hpl) fun σ H Q q => by
    obtain ⟨η, R, s, h, q⟩ := q
    refine ⟨η, _, s, h, fun d o v H1 hd sm rs => ?_⟩
    obtain ⟨t, e1, hr⟩ := hd
    obtain ⟨f, r⟩ := rs.rep
    exact ⟨v, .ty n, .type t, .type n, isT t n, rfl, .ty n, ty_of r e1, kit_ty (hk t (tyN_in e1)), q _ _ _ _ hr sm ⟨[], Fresh.imm rfl (.bl _)⟩⟩

/-! ### {}, {k: v} -/
def pD0 (d : D) : PTr := fun _ R => R d true
theorem p_dT0 : DP X W (.Dict [] [] pos) (pD0 (.dT [])) := PE.weak pe_dnewT fun σ H Q q p hp => by
  obtain ⟨η, R, s, h, q⟩ := q
  exact q _ _ _ _ h (Sm.of s.tab (same_upd hp)) ⟨[p], .dT (.inl upd_same) rfl List.nodup_nil .nil, List.nodup_cons.mpr ⟨List.not_mem_nil, List.nodup_nil⟩, fun a m => by rw [List.mem_singleton.mp m]; exact nt_of hp, fun a m => by rw [List.mem_singleton.mp m, upd_same]; trivial⟩
def pD1 (τk τx : PTr) : PTr := fun η R => τk η fun k _ => τx η fun x ox => ∃ kk, k.key = some kk ∧ ox = true ∧ R (.dK [(kk, x)]) true
end
end DL

namespace DL
open PySem PySem.Spec PyProof.Rows L2
set_option linter.all false
set_option Elab.async false
set_option maxRecDepth 100000
set_option maxHeartbeats 1000000

/-! ## D9: expressions that change things -/
abbrev Cells := List Cell
abbrev EX := Value → Cells → Prop
abbrev EQ := D → Bool → Cells → Prop
abbrev ETr := EX → Cells → EQ → Prop
abbrev ETt := EX → Cells → (Bool → Cells → Prop) → Prop
abbrev ETa := EX → Cells → (List D → Cells → Prop) → Prop
def Cell.data : Cell → Option D
  | .no => none
  | .own d => some d
  | .pin d _ => some d
  | .ro d _ => some d
  | .lck d _ => some d
def TC (o : Bool) (d : D) (v : V) : Cell := match o with
  | true => .own d
  | false => .ro d v
section
variable {K : PySem.W.Frag} {W : WX} {Kp Kp' H H' : Hp} {ρ ρ' ts : Cells} {σ vs : L2.St}
theorem S.len (s : S K Kp H ρ σ) : ρ.length = σ.length := by obtain ⟨fp, s⟩ := s; exact s.len
theorem S.rep (s : S K Kp H ρ σ) {i : Nat} {c : Cell} {d : D} (e : ρ[i]? = some c) (hd : c.data = some d) : ∃ v f, σ[i]? = some (some v) ∧ Rep K H d v f := by
  obtain ⟨fp, s⟩ := s
  obtain ⟨u, eu, q⟩ := s.cell i c e
  cases c with
  | no => cases hd
  | own d => cases hd; obtain ⟨⟨v, rfl, r⟩, _⟩ := q; exact ⟨v, _, eu, r⟩
  | pin d v => cases hd; obtain ⟨⟨rfl, r⟩, _⟩ := q; exact ⟨v, _, eu, r⟩
  | ro d v => cases hd; obtain ⟨_, rfl, g, r, _⟩ := q; exact ⟨v, _, eu, r⟩
  | lck d v => cases hd; obtain ⟨rfl, a, o, rfl, r, _⟩ := q; exact ⟨_, _, eu, r⟩
theorem S.sp (s : S K Kp H (ρ ++ ts) (σ ++ vs)) (hl : ρ.length = σ.length) {ex : Value → Prop} (hx : ∀ cls H', Sm K H H' → ex cls → W (cv K cls) none σ H') : SP K W H ⟨ρ.map Cell.data, ex⟩ σ := by
  refine ⟨by simpa using hl, fun i d e => ?_, hx, s.tab⟩
  have e' : (ρ.map Cell.data)[i]? = some (some d) := e
  rw [List.getElem?_map] at e'
  cases hc : ρ[i]? with
  | none => rw [hc] at e'; cases e'
  | some c =>
    rw [hc] at e'
    have hi : i < ρ.length := (List.getElem?_eq_some_iff.mp hc).1
    obtain ⟨v, f, e1, r⟩ := s.rep (i := i) (c := c) (d := d) (by rw [List.getElem?_append_left hi]; exact hc) (by simpa using e')
    rw [List.getElem?_append_left (hl ▸ hi)] at e1
    exact ⟨v, f, e1, r⟩
/-- the end dropped -/
theorem S.dropEnd {t2 : Cells} {v2 : L2.St} (s : S K Kp H (ρ ++ t2) (σ ++ v2)) (hl : ρ.length = σ.length) : S K Kp H ρ σ :=
  s.remap hl id (fun j c e => .inr ⟨c, by
    have hj := (List.getElem?_eq_some_iff.mp e).1
    show (ρ ++ t2)[j]? = some c
    rw [List.getElem?_append_left hj]; exact e, .refl c, by
    have hj := (List.getElem?_eq_some_iff.mp e).1
    show σ[j]? = (σ ++ v2)[j]?
    rw [List.getElem?_append_left (hl ▸ hj)]⟩) fun i j c c' _ _ _ _ e => e
/-- the last one stored at i -/
theorem S.store {o : Bool} {d : D} {v : V} (s : S K Kp H (ρ ++ [TC o d v]) (σ ++ [some v])) (hl : ρ.length = σ.length) {i : Nat} (hi : i < ρ.length) : S K Kp H (ρ.set i (TC o d v)) (σ.set i (some v)) := by
  refine s.remap (by simp [hl]) (fun j => if j = i then ρ.length else j) (fun j c e => ?_) fun a b c c' h1 h2 _ _ e => ?_
  · by_cases hj : j = i
    · subst hj
      rw [List.getElem?_set_self hi] at e; cases e
      refine .inr ⟨TC o d v, by simp, .refl _, ?_⟩
      rw [List.getElem?_set_self (hl ▸ hi), if_pos rfl, hl]; simp
    · rw [List.getElem?_set_ne (Ne.symm hj)] at e
      have hjl := (List.getElem?_eq_some_iff.mp e).1
      refine .inr ⟨c, by simp only [hj, if_false]; rw [List.getElem?_append_left hjl]; exact e, .refl _, ?_⟩
      simp only [hj, if_false]
      rw [List.getElem?_set_ne (Ne.symm hj), List.getElem?_append_left (hl ▸ hjl)]
  · have ha : a < ρ.length := by have := (List.getElem?_eq_some_iff.mp h1).1; simpa using this
    have hb : b < ρ.length := by have := (List.getElem?_eq_some_iff.mp h2).1; simpa using this
    by_cases h3 : a = i <;> by_cases h4 : b = i <;> simp [h3, h4] at e <;> omega
/-- a cell taken out to the end -/
theorem S.take {d : D} {c : Cell} {i : Nat} (s : S K Kp H (ρ ++ ts) (σ ++ vs)) (hl : ρ.length = σ.length) (e : ρ[i]? = some c) (hc : c = .own d ∨ ∃ v, c = .pin d v) : ∃ v, σ[i]? = some (some v) ∧ S K Kp H (ρ.set i .no ++ (ts ++ [.own d])) (σ ++ (vs ++ [some v])) := by
  have hi : i < ρ.length := (List.getElem?_eq_some_iff.mp e).1
  obtain ⟨v, f, ev, r⟩ := s.rep (i := i) (c := c) (d := d) (by rw [List.getElem?_append_left hi]; exact e) (by rcases hc with rfl | ⟨_, rfl⟩ <;> rfl)
  rw [List.getElem?_append_left (hl ▸ hi)] at ev
  refine ⟨v, ev, ?_⟩
  have h2 := s.len
  simp at h2
  have nn : ∀ j c', (ρ.set i .no ++ (ts ++ [.own d]))[j]? = some c' → c' ≠ .no → j ≠ i := fun j c' h n z => by
    subst z
    rw [List.getElem?_append_left (by simpa using hi), List.getElem?_set_self hi] at h
    cases h; exact n rfl
  refine s.remap (by simp; omega) (fun j => if j = ρ.length + ts.length then i else j) (fun j c' h => ?_) fun a b c1 c2 h1 h2' n1 n2 e' => ?_
  · by_cases hj : j = ρ.length + ts.length
    · subst hj
      rw [List.getElem?_append_right (by simp), List.getElem?_append_right (by simp)] at h
      simp at h
      subst h
      refine .inr ⟨c, by rw [if_pos rfl, List.getElem?_append_left hi]; exact e, ?_, ?_⟩
      · rcases hc with rfl | ⟨_, rfl⟩
        · exact .refl _
        · exact .unpin _ _
      · rw [if_pos rfl, List.getElem?_append_right (by omega), List.getElem?_append_right (by omega), List.getElem?_append_left (hl ▸ hi), ev]
        have : ρ.length + ts.length - σ.length - vs.length = 0 := by omega
        rw [this]; rfl
    · rw [if_neg hj]
      by_cases hji : j = i
      · subst hji
        rw [List.getElem?_append_left (by simpa using hi), List.getElem?_set_self hi] at h
        cases h; exact .inl rfl
      · by_cases hjl : j < ρ.length
        · rw [List.getElem?_append_left (by simpa using hjl), List.getElem?_set_ne (Ne.symm hji)] at h
          refine .inr ⟨c', by rw [List.getElem?_append_left hjl]; exact h, .refl _, ?_⟩
          rw [List.getElem?_append_left (hl ▸ hjl), List.getElem?_append_left (hl ▸ hjl)]
        · have hjt : j < ρ.length + ts.length := by
            have := (List.getElem?_eq_some_iff.mp h).1
            simp at this; omega
          rw [List.getElem?_append_right (by simp; omega), List.getElem?_append_left (by simp; omega)] at h
          refine .inr ⟨c', by rw [List.getElem?_append_right (by omega)]; simpa using h, .refl _, ?_⟩
          have e1 : (σ ++ (vs ++ [some v]))[j]? = (vs ++ [some v])[j - σ.length]? := List.getElem?_append_right (by omega)
          have e2 : (σ ++ vs)[j]? = vs[j - σ.length]? := List.getElem?_append_right (by omega)
          rw [e1, e2, List.getElem?_append_left (by omega)]
  · have hai := nn a c1 h1 n1
    have hbi := nn b c2 h2' n2
    by_cases h3 : a = ρ.length + ts.length <;> by_cases h4 : b = ρ.length + ts.length
    · rw [h3, h4]
    · rw [if_pos h3, if_neg h4] at e'; exact absurd e'.symm hbi
    · rw [if_neg h3, if_pos h4] at e'; exact absurd e' hai
    · rw [if_neg h3, if_neg h4] at e'; exact e'
theorem flat_reps : ∀ {ds : List D} {us : List V} {g : Nat → List Addr}, ds.length = us.length → (∀ k d, ds[k]? = some d → ∃ v, us[k]? = some v ∧ Rep K H d v (g k)) → Reps K H ds us ((List.range ds.length).flatMap g)
  | [], [], g, _, _ => .nil
  | d :: ds, u :: us, g, hl, h => by
    rw [List.length_cons, List.range_succ_eq_map, List.flatMap_cons, List.flatMap_map]
    obtain ⟨v, e, r⟩ := h 0 d rfl
    simp at e; subst e
    exact .cons r (flat_reps (g := fun k => g (k + 1)) (by simpa using hl) fun k d' e' => by
      obtain ⟨v, e1, r1⟩ := h (k + 1) d' (by simpa using e')
      exact ⟨v, by simpa using e1, r1⟩)
  | [], _ :: _, _, hl, _ => by simp at hl
  | _ :: _, [], _, hl, _ => by simp at hl
theorem flat_nodup {g : Nat → List Addr} (nd : ∀ k, (g k).Nodup) (dj : ∀ i j a, a ∈ g i → a ∈ g j → i = j) : ∀ n : Nat, ((List.range n).flatMap g).Nodup
  | 0 => by simp
  | n + 1 => by
    rw [List.range_succ, List.flatMap_append]
    refine List.nodup_append.mpr ⟨flat_nodup nd dj n, by simpa using nd n, fun a m b m' e => ?_⟩
    subst e
    obtain ⟨k, hk, mk⟩ := List.mem_flatMap.mp m
    have hb : a ∈ g n := by simpa using m'
    have := dj k n a mk hb
    subst this
    simp at hk
/-- the last ones put together into one thing -/
theorem S.collect {ds : List D} {us : List V} (s : S K Kp H (ρ ++ ds.map .own) (σ ++ us.map some)) (hl : ρ.length = σ.length) :
    ∃ f, Reps K H ds us f ∧ f.Nodup ∧ MutAll H f ∧ (∀ a ∈ f, Kp a = none) ∧ (∀ a o, Kp a = some o → H a = some o) ∧
      ∀ (H' : Hp) (d : D) (v : V) (g : List Addr), (∀ a o, H a = some o → a ∉ f → H' a = some o) → Rep K H' d v g → g.Nodup → MutAll H' g → (∀ a ∈ g, a ∈ f ∨ H a = none) → S K Kp H' (ρ ++ [.own d]) (σ ++ [some v]) := by
  obtain ⟨fp, s⟩ := s
  have hl2 : ds.length = us.length := by have := s.len; simp at this; omega
  let g : Nat → List Addr := fun k => fp (ρ.length + k)
  have hg : ∀ k d, ds[k]? = some d → ∃ v, us[k]? = some v ∧ Rep K H d v (g k) := fun k d e => by
    have hk := (List.getElem?_eq_some_iff.mp e).1
    obtain ⟨u, eu, ⟨⟨v, ev, r⟩, _⟩⟩ := s.cell (ρ.length + k) (.own d) (by rw [List.getElem?_append_right (by omega)]; simp [e])
    subst ev
    refine ⟨v, ?_, r⟩
    rw [List.getElem?_append_right (by omega)] at eu
    have : ρ.length + k - σ.length = k := by omega
    rw [this, List.getElem?_map] at eu
    cases h : us[k]? with
    | none => rw [h] at eu; cases eu
    | some w => rw [h] at eu; simp at eu; rw [eu]
  have mem : ∀ a, a ∈ (List.range ds.length).flatMap g → ∃ k, k < ds.length ∧ a ∈ fp (ρ.length + k) := fun a m => by
    obtain ⟨k, hk, mk⟩ := List.mem_flatMap.mp m
    exact ⟨k, by simpa using hk, mk⟩
  refine ⟨(List.range ds.length).flatMap g, flat_reps hl2 hg, flat_nodup (fun k => s.nd _) (fun i j a h1 h2 => by have := s.dj _ _ a h1 h2; omega) _, fun a m => ?_, fun a m => ?_, s.sub.sub, fun H' d v g2 fr r nd mu new => ?_⟩
  · obtain ⟨k, _, mk⟩ := mem a m; exact s.mut _ a mk
  · obtain ⟨k, _, mk⟩ := mem a m; exact s.kp _ a mk
  · have notf : ∀ i, i < ρ.length → ∀ a ∈ fp i, a ∉ (List.range ds.length).flatMap g := fun i hi a m m' => by
      obtain ⟨k, _, mk⟩ := mem a m'
      have := s.dj _ _ a m mk
      omega
    have hsub : ∀ a o, Kp a = some o → H' a = some o := fun a o e => fr a o (s.sub a o e) fun m => by
      obtain ⟨k, _, mk⟩ := mem a m
      rw [s.kp _ a mk] at e; cases e
    have htup : ∀ a (ts : TupX), H a = some ts.1 → H' a = some ts.1 := fun a ts e => fr a _ e fun m => by
      obtain ⟨k, _, mk⟩ := mem a m
      have := s.mut _ a mk
      rw [e] at this; exact ts.nm this
    have apart : ∀ i, i < ρ.length → ∀ a ∈ fp i, a ∉ g2 := fun i hi a m m2 => by
      rcases new a m2 with h | h
      · exact notf i hi a m h
      · exact (s.mut i).isSome m h
    refine ⟨fun i => if i < ρ.length then fp i else if i = ρ.length then g2 else [], by simp [hl], fun i c e => ?_, fun i e => ?_, fun i => ?_, fun i j a hi hj => ?_, fun i a hi => ?_, ⟨hsub, s.sub.nt, s.sub.tab.off fr fun a m => by obtain ⟨k, _, mk⟩ := mem a m; exact s.there _ a mk⟩⟩
    · by_cases hi : i < ρ.length
      · rw [List.getElem?_append_left hi] at e
        obtain ⟨u, eu, q⟩ := s.cell i c (by rw [List.getElem?_append_left hi]; exact e)
        rw [List.getElem?_append_left (hl ▸ hi)] at eu
        refine ⟨u, by rw [List.getElem?_append_left (hl ▸ hi)]; exact eu, ?_⟩
        rw [if_pos hi]
        exact q.keep ⟨fun a m o x => fr a o x (notf i hi a m), htup⟩ s.sub.sub hsub fun a o q => ⟨o, q⟩
      · by_cases hi2 : i = ρ.length
        · subst hi2
          simp at e; subst e
          refine ⟨some v, by rw [hl]; simp, ?_⟩
          rw [if_neg (by omega), if_pos rfl]
          exact ⟨⟨v, rfl, r⟩, mu⟩
        · rw [List.getElem?_eq_none (by simp; omega)] at e; cases e
    · have := List.getElem?_eq_none_iff.mp e
      simp at this
      rw [if_neg (by omega), if_neg (by omega)]
    · by_cases hi : i < ρ.length
      · rw [if_pos hi]; exact s.nd i
      · rw [if_neg hi]; split
        · exact nd
        · exact List.nodup_nil
    · by_cases h1 : i < ρ.length <;> by_cases h2 : j < ρ.length
      · rw [if_pos h1] at hi; rw [if_pos h2] at hj; exact s.dj i j a hi hj
      · rw [if_pos h1] at hi; rw [if_neg h2] at hj
        split at hj
        · exact (apart i h1 a hi hj).elim
        · cases hj
      · rw [if_neg h1] at hi; rw [if_pos h2] at hj
        split at hi
        · exact (apart j h2 a hj hi).elim
        · cases hi
      · rw [if_neg h1] at hi; rw [if_neg h2] at hj
        split at hi
        · split at hj
          · omega
          · cases hj
        · cases hi
    · by_cases h1 : i < ρ.length
      · rw [if_pos h1] at hi; exact s.kp i a hi
      · rw [if_neg h1] at hi
        split at hi
        · rcases new a hi with h | h
          · obtain ⟨k, _, mk⟩ := mem a h; exact s.kp _ a mk
          · cases q : Kp a with
            | none => rfl
            | some o => have := s.sub a o q; rw [h] at this; cases this
        · cases hi
/-- the last one let go: what it stands on is kept from now on -/
theorem S.release {o : Bool} {d : D} {v : V} (s : S K Kp H (ρ ++ [TC o d v]) (σ ++ [some v])) (hl : ρ.length = σ.length) : ∃ Kp' f, S K Kp' H ρ σ ∧ Same Kp Kp' ∧ Rep K H d v f ∧ Holds H Kp' f ∧ (o = true → (∀ a ∈ f, Kp a = none) ∧ MutAll H f) := by
  obtain ⟨fp, s⟩ := s
  classical
  let Kq : Hp := fun a => if ∃ i, i < ρ.length ∧ a ∈ fp i then none else nt H a
  have k1 : ∀ a o, Kp a = some o → Kq a = some o := fun a o e => by
    have : ¬ ∃ i, i < ρ.length ∧ a ∈ fp i := fun ⟨i, _, m⟩ => by rw [s.kp i a m] at e; cases e
    show (if _ then none else nt H a) = some o
    rw [if_neg this]; exact nt_at (s.sub a o e) fun ps z => s.sub.nt a ps (z ▸ e)
  have k2 : ∀ a o, Kq a = some o → H a = some o := fun a o e => by
    have e' : (if ∃ i, i < ρ.length ∧ a ∈ fp i then none else nt H a) = some o := e
    split at e'
    · cases e'
    · exact nt_same H a o e'
  have k4 : ∀ a ps, Kq a ≠ some (.tbl ps) := fun a ps e => by
    have e' : (if ∃ i, i < ρ.length ∧ a ∈ fp i then none else nt H a) = some (.tbl ps) := e
    split at e'
    · cases e'
    · exact nt_no H a ps e'
  have k3 : ∀ a, (∀ i, i < ρ.length → a ∉ fp i) → Kq a = nt H a := fun a h => by
    have : ¬ ∃ i, i < ρ.length ∧ a ∈ fp i := fun ⟨i, hi, m⟩ => h i hi m
    show (if _ then none else nt H a) = _
    rw [if_neg this]
  have tups : ∀ a (xs : TupX), H a = some xs.1 → Kq a = some xs.1 := fun a xs e => by
    rw [k3 a fun i _ m => by have := s.mut i a m; rw [e] at this; exact xs.nm this]; exact nt_at e xs.nt
  have sS : S K Kq H ρ σ := by
    refine ⟨fun i => if i < ρ.length then fp i else [], hl, fun i c e => ?_, fun i e => ?_, fun i => ?_, fun i j a hi hj => ?_, fun i a hi => ?_, ⟨k2, k4, s.sub.tab⟩⟩
    · have hi := (List.getElem?_eq_some_iff.mp e).1
      obtain ⟨u, eu, q⟩ := s.cell i c (by rw [List.getElem?_append_left hi]; exact e)
      rw [List.getElem?_append_left (hl ▸ hi)] at eu
      rw [if_pos hi]
      exact ⟨u, eu, q.keep (.of_same (Same.refl H)) s.sub.sub s.sub.sub fun a o q => ⟨o, k1 a o q⟩⟩
    · have := List.getElem?_eq_none_iff.mp e
      rw [if_neg (by omega)]
    · split
      · exact s.nd i
      · exact List.nodup_nil
    · split at hi
      · split at hj
        · exact s.dj i j a hi hj
        · cases hj
      · cases hi
    · split at hi
      · rename_i h
        show (if _ then none else nt H a) = none
        rw [if_pos ⟨i, h, hi⟩]
      · cases hi
  obtain ⟨u, eu, q⟩ := s.cell ρ.length (TC o d v) (by simp)
  rw [hl] at eu; simp at eu
  subst eu
  cases o with
  | true =>
    obtain ⟨⟨w, ew, r⟩, m⟩ := q
    cases ew
    exact ⟨Kq, fp ρ.length, sS, k1, r, ⟨k2, fun a ma => by
      rw [k3 a fun i hi m' => by have := s.dj _ _ a ma m'; omega]
      obtain ⟨u, e⟩ := Mut.some (m a ma); exact ⟨u, nt_at e fun ps z => Mut.nt (m a ma) ps (z ▸ e)⟩, tups⟩, fun _ => ⟨fun a ma => s.kp _ a ma, m⟩⟩
  | false =>
    obtain ⟨_, ew, g, r, hg⟩ := q
    cases ew
    exact ⟨Kq, g, sS, k1, r, ⟨k2, fun a ma => by
      obtain ⟨o, e⟩ := hg a ma
      exact ⟨o, k1 a o e⟩, tups⟩, fun z => by cases z⟩
end
end DL

namespace DL
open PySem PySem.Spec PyProof.Rows L2
set_option linter.all false
set_option Elab.async false
set_option maxRecDepth 100000
set_option maxHeartbeats 1000000

/-! ## D10: expressions that change things, the rules -/
section
variable {K : PySem.W.Frag} {W : WX} {Kp Kp' H H' : Hp} {ρ ρ' ts : Cells} {σ vs : L2.St}
def ExOk (K : PySem.W.Frag) (W : WX) (Kp : Hp) (X : EX) (ts : Cells) (vs : L2.St) (σ : L2.St) : Prop :=
  ∀ cls ρ' H' Kp', X cls ρ' → Same Kp Kp' → S K Kp' H' (ρ' ++ ts) (σ ++ vs) → W (cv K cls) none σ H'
def lowE (K : PySem.W.Frag) (W : WX) (τ : ETr) : TE := fun σ H Q => ∃ Kp ρ ts vs X R, ρ.length = σ.length ∧ S K Kp H (ρ ++ ts) (σ ++ vs) ∧ ExOk K W Kp X ts vs σ ∧ τ X ρ R ∧
  ∀ d o ρ' v H' Kp', R d o ρ' → Same Kp Kp' → S K Kp' H' (ρ' ++ (ts ++ [TC o d v])) (σ ++ (vs ++ [some v])) → Q v H'
def DE (X : Cx) (W : WX) (e : Expr) (τ : ETr) : Prop := PE X e (lowE X.K W τ)
theorem S.lenT (s : S K Kp H (ρ ++ ts) (σ ++ vs)) (hl : ρ.length = σ.length) : ts.length = vs.length := by
  have := s.len; simp at this; omega
theorem S.lenR {t2 : Cells} {v2 : L2.St} (s : S K Kp H (ρ ++ (ts ++ t2)) (σ ++ (vs ++ v2))) (ht : ts.length = vs.length) (h2 : t2.length = v2.length) : ρ.length = σ.length := by
  have := s.len; simp at this; omega
theorem S.drop2 {t2 : Cells} {v2 : L2.St} (s : S K Kp H (ρ ++ (ts ++ t2)) (σ ++ (vs ++ v2))) (hl : ρ.length = σ.length) (ht : ts.length = vs.length) : S K Kp H (ρ ++ ts) (σ ++ vs) := by
  rw [← List.append_assoc, ← List.append_assoc] at s
  exact s.dropEnd (by simp [hl, ht])
theorem ExOk.push {X : EX} {t2 : Cells} {v2 : L2.St} (h : ExOk K W Kp X ts vs σ) (sm : Same Kp Kp') (ht : ts.length = vs.length) (h2 : t2.length = v2.length) : ExOk K W Kp' X (ts ++ t2) (vs ++ v2) σ :=
  fun cls ρ' H' Kq hx s2 s => h cls ρ' H' Kq hx (sm.trans s2) (s.drop2 (s.lenR ht h2) ht)
theorem ExOk.grow {X : EX} (h : ExOk K W Kp X ts vs σ) (sm : Same Kp Kp') : ExOk K W Kp' X ts vs σ := fun cls ρ' H' Kq hx s2 s => h cls ρ' H' Kq hx (sm.trans s2) s
theorem S.last {c : Cell} {u : Option V} {d : D} (s : S K Kp H (ρ ++ [c]) (σ ++ [u])) (hl : ρ.length = σ.length) (hd : c.data = some d) : ∃ v f, u = some v ∧ Rep K H d v f := by
  obtain ⟨v, f, e, r⟩ := s.rep (i := ρ.length) (c := c) (by simp) hd
  rw [hl] at e; simp at e
  exact ⟨v, f, e, r⟩
theorem TC_data (o : Bool) (d : D) (v : V) : (TC o d v).data = some d := by cases o <;> rfl
def ePure (τ : PTr) : ETr := fun X ρ R => τ ⟨ρ.map Cell.data, fun cls => X cls ρ⟩ fun d o => o = true ∧ R d true ρ
theorem ExOk.sp {X : EX} (x : ExOk K W Kp X ts vs σ) (s : S K Kp H (ρ ++ ts) (σ ++ vs)) (hl : ρ.length = σ.length) : SP K W H ⟨ρ.map Cell.data, fun cls => X cls ρ⟩ σ :=
  s.sp hl fun cls H' sm hx => x cls ρ H' Kp hx (Same.refl _) (s.step sm)
theorem S.push' {d : D} {v : V} {f : List Addr} (s : S K Kp H (ρ ++ ts) (σ ++ vs)) (h : Sm K H H') (r : Fresh K H H' d v f) : S K Kp H' (ρ ++ (ts ++ [.own d])) (σ ++ (vs ++ [some v])) := by
  rw [← List.append_assoc, ← List.append_assoc]
  exact s.push h r
theorem S.pushS {d : D} {v : V} {f : List Addr} (s : S K Kp H (ρ ++ ts) (σ ++ vs)) (h : Same H H') (r : Fresh K H H' d v f) : S K Kp H' (ρ ++ (ts ++ [.own d])) (σ ++ (vs ++ [some v])) := s.push' (.of s.tab h) r
end
section
variable {X : Cx} {W : WX} {a b c e : Expr} {es : List Expr} {τ τa τb : ETr} {pos : Pos}
theorem e_pure {τ : PTr} (h : DP X W e τ) : DE X W e (ePure τ) := PE.weak h fun σ H Q q => by
  obtain ⟨Kp, ρ, ts, vs, X, R, hl, s, x, h, q⟩ := q
  refine ⟨_, _, x.sp s hl, h, fun d o v H' hd sm rs => ?_⟩
  obtain ⟨rfl, hr⟩ := hd
  obtain ⟨f, fr⟩ := rs
  exact q _ _ _ _ _ Kp hr (Same.refl _) (s.push' sm fr)
def killC (d : D) (i : Nat) (ρ : Cells) : Cells := if d.imm = true then ρ else ρ.set i .no
def eTake (i : Nat) : ETr := fun _ ρ R => match ρ[i]? with
  | some (.own d) => R d true (killC d i ρ)
  | some (.pin d _) => R d true (killC d i ρ)
  | some (.ro d _) => R d d.imm ρ
  | _ => False
theorem take_low {K : PySem.W.Frag} {Kp H : Hp} {ρ ts : Cells} {σ vs : L2.St} {i : Nat} {d : D} {c : Cell} (s : S K Kp H (ρ ++ ts) (σ ++ vs)) (hl : ρ.length = σ.length) (e : ρ[i]? = some c) (hc : c = .own d ∨ ∃ v, c = .pin d v) :
    ∃ v, σ[i]? = some (some v) ∧ S K Kp H (killC d i ρ ++ (ts ++ [.own d])) (σ ++ (vs ++ [some v])) := by
  unfold killC
  split
  · rename_i hi
    have hlt : i < ρ.length := (List.getElem?_eq_some_iff.mp e).1
    obtain ⟨v, f, ev, r⟩ := s.rep (i := i) (c := c) (d := d) (by rw [List.getElem?_append_left hlt]; exact e) (by rcases hc with rfl | ⟨_, rfl⟩ <;> rfl)
    rw [List.getElem?_append_left (hl ▸ hlt)] at ev
    exact ⟨v, ev, s.push' (Sm.refl s.tab) (Fresh.imm hi r)⟩
  · exact s.take hl e hc
theorem e_take {i : Nat} (h : PE X e (tVar i)) : DE X W e (eTake i) := PE.weak h fun σ H Q q => by
  obtain ⟨Kp, ρ, ts, vs, X, R, hl, s, x, h, q⟩ := q
  unfold eTake at h
  split at h
  · rename_i d e
    obtain ⟨v, ev, s2⟩ := take_low s hl e (.inl rfl)
    exact ⟨v, ev, q _ _ _ _ _ Kp h (Same.refl _) s2⟩
  · rename_i d v0 e
    obtain ⟨v, ev, s2⟩ := take_low s hl e (.inr ⟨v0, rfl⟩)
    exact ⟨v, ev, q _ _ _ _ _ Kp h (Same.refl _) s2⟩
  · rename_i d v0 e
    have hlt : i < ρ.length := (List.getElem?_eq_some_iff.mp e).1
    obtain ⟨fp, sf⟩ := id s
    obtain ⟨u, eu, _, rfl, g, r, hg⟩ := sf.cell i _ (by rw [List.getElem?_append_left hlt]; exact e)
    rw [List.getElem?_append_left (hl ▸ hlt)] at eu
    refine ⟨v0, eu, q _ _ _ _ _ Kp h (Same.refl _) ?_⟩
    cases hi : d.imm with
    | true => exact s.push' (Sm.refl s.tab) (Fresh.imm hi r)
    | false =>
      rw [← List.append_assoc, ← List.append_assoc]
      exact s.pushRo r hg
  · exact h.elim

/-! ### two in a row -/
def eBin (m : DM) (τa τb : ETr) : ETr := fun X ρ R => τa X ρ fun da oa ρ1 => oa = true ∧ τb X ρ1 fun db ob ρ2 => ob = true ∧ m da db fun d o => o = true ∧ R d true ρ2
theorem low_ebin {m : DM} {σ : L2.St} {H : Hp} {Q : VK} {K : PySem.W.Frag} (q : lowE K W (eBin m τa τb) σ H Q) : tOp (rM K m) (lowE K W τa) (lowE K W τb) σ H Q := by
  obtain ⟨Kp, ρ, ts, vs, X, R, hl, s, x, h, q⟩ := q
  have ht := s.lenT hl
  refine ⟨Kp, ρ, ts, vs, X, _, hl, s, x, h, fun da oa ρ1 y H1 K1 hb sm s1 => ?_⟩
  obtain ⟨rfl, hb⟩ := hb
  have hl1 := s1.lenR ht (by simp)
  refine ⟨K1, ρ1, _, _, X, _, hl1, s1, x.push sm ht (by simp), hb, fun db ob ρ2 z H2 K2 hc sm2 s2 => ?_⟩
  obtain ⟨rfl, hc⟩ := hc
  have hl2 := s2.lenR (by simp [ht]) (by simp)
  have s2' := s2
  simp only [← List.append_assoc] at s2'
  obtain ⟨w2, g2, e2, r2⟩ := s2'.last (by simp [hl2, ht]) (TC_data true db z)
  cases e2
  have s3 := s2.drop2 hl2 (by simp [ht])
  have s3' := s3
  rw [← List.append_assoc, ← List.append_assoc] at s3'
  obtain ⟨w1, g1, e1, r1⟩ := s3'.last (by simp [hl2, ht]) (TC_data true da y)
  cases e1
  refine ⟨da, db, g1, g2, _, r1, r2, hc, fun d o v H' hr sm3 rs => ?_⟩
  obtain ⟨rfl, hr⟩ := hr
  obtain ⟨f, fr⟩ := rs
  have s4 := s3.drop2 hl2 ht
  exact q _ _ _ _ _ K2 hr (sm.trans sm2) (s4.pushS sm3 fr)
theorem e_bin {op : Operator} {m : DM} (ho : DOp X (binaryOp op) m) (ha : DE X W a τa) (hb : DE X W b τb) : DE X W (.BinOp a op b pos) (eBin m τa τb) :=
  PE.weak (pe_op ho ha hb) fun _ _ _ q => low_ebin q
theorem e_ix {m : DM} (ho : DIx X m) (ha : DE X W a τa) (hb : DE X W b τb) (hs : PlainIx b := by exact fun _ _ => rfl) : DE X W (.Subscript a b pos) (eBin m τa τb) :=
  PE.weak (pe_ix ho ha hb hs) fun _ _ _ q => low_ebin q
/-- the left one is a name, read last -/
def eBinN (m : DM) (i : Nat) (τb : ETr) : ETr := fun X ρ R => (∃ c d, ρ[i]? = some c ∧ c.data = some d) ∧ τb X ρ fun db ob ρ2 => ob = true ∧ ∃ c d, ρ2[i]? = some c ∧ c.data = some d ∧ m d db fun d o => o = true ∧ R d true ρ2
/-- part of a list or tuple that is one's own -/
def eIxO (τa τb : ETr) : ETr := fun X ρ R => τa X ρ fun da oa ρ1 => oa = true ∧ τb X ρ1 fun db ob ρ2 => ob = true ∧ ∃ xs j d, (da = .lst xs ∨ da = .tup xs) ∧ db = .int j ∧ atI xs j = some d ∧ R d true ρ2
theorem Reps.getS {K : PySem.W.Frag} {H : Hp} {ds : List D} {vs : List V} {fp : List Addr} (r : Reps K H ds vs fp) {i : Nat} {d : D} (e : ds[i]? = some d) :
    ∃ v f, vs[i]? = some v ∧ Rep K H d v f ∧ f.Sublist fp := by
  induction ds generalizing vs fp i with
  | nil => simp at e
  | cons x ds ih =>
    cases r with
    | cons h t =>
      cases i with
      | zero => simp at e; subst e; exact ⟨_, _, rfl, h, List.sublist_append_left _ _⟩
      | succ i =>
        obtain ⟨v, f, e1, r1, s⟩ := ih t (i := i) (by simpa using e)
        exact ⟨v, f, by simpa using e1, r1, s.trans (List.sublist_append_right _ _)⟩
theorem Reps.atIS {K : PySem.W.Frag} {H : Hp} {ds : List D} {vs : List V} {fp : List Addr} (r : Reps K H ds vs fp) {i : Int} {d : D} (e : atI ds i = some d) : ∃ v f, atI vs i = some v ∧ Rep K H d v f ∧ f.Sublist fp := by
  unfold atI at e ⊢
  rw [← r.len]
  cases h : ixN ds.length i with
  | none => rw [h] at e; cases e
  | some j =>
    rw [h] at e
    obtain ⟨v, f, e1, r1, s⟩ := r.getS (i := j) e
    exact ⟨v, f, e1, r1, s⟩
theorem e_ixO (ha : DE X W a τa) (hb : DE X W b τb) (hs : PlainIx b := by exact fun _ _ => rfl) : DE X W (.Subscript a b pos) (eIxO τa τb) :=
  PE.weak (pe_ix (L2.IxR.or ix_list ix_tup) ha hb hs) fun σ H Q q => by
    obtain ⟨Kp, ρ, ts, vs, X, R, hl, s, x, h, q⟩ := q
    have ht := s.lenT hl
    refine ⟨Kp, ρ, ts, vs, X, _, hl, s, x, h, fun da oa ρ1 y H1 K1 hb sm s1 => ?_⟩
    obtain ⟨rfl, hb⟩ := hb
    have hl1 := s1.lenR ht (by simp)
    refine ⟨K1, ρ1, _, _, X, _, hl1, s1, x.push sm ht (by simp), hb, fun db ob ρ2 z H2 K2 hc sm2 s2 => ?_⟩
    obtain ⟨rfl, xs, j, d, hda, rfl, eat, hr⟩ := hc
    have hl2 := s2.lenR (by simp [ht]) (by simp)
    have s2' := s2
    simp only [← List.append_assoc] at s2'
    obtain ⟨w2, g2, e2, r2⟩ := s2'.last (by simp [hl2, ht]) (TC_data true (.int j) z)
    cases e2
    have ez := r2.int_inv.1
    subst ez
    have s3 := s2.drop2 hl2 (by simp [ht])
    rw [← List.append_assoc, ← List.append_assoc] at s3
    obtain ⟨f, rr, nd, mu, kp, sub, fin⟩ := (show S _ K2 H2 ((ρ2 ++ ts) ++ [da].map .own) ((σ ++ vs) ++ [y].map some) from s3).collect (by simp [hl2, ht])
    obtain ⟨w, ew, r1⟩ := rr.one_inv
    cases ew
    have fin' : ∀ v g, Rep _ H2 d v g → g.Sublist f → Q v H2 := fun v g r sl => by
      refine q _ true ρ2 v H2 K2 hr (sm.trans sm2) ?_
      rw [← List.append_assoc, ← List.append_assoc]
      exact fin H2 d v g (fun a o e _ => e) r (nd.sublist sl) (fun a m => mu a (sl.subset m)) fun a m => .inl (sl.subset m)
    rcases hda with rfl | rfl
    · obtain ⟨p, us, g, rfl, hp, r3, rfl⟩ := r1.lst_inv
      obtain ⟨v, g', e4, r4, sl⟩ := r3.atIS eat
      exact .inl ⟨p, us, j, v, rfl, rfl, .of hp, e4, fin' v g' r4 (sl.trans (List.sublist_cons_self _ _))⟩
    · obtain ⟨p, us, rfl, hp, r3⟩ := r1.tup_inv
      obtain ⟨v, g', e4, r4, sl⟩ := r3.atIS eat
      exact .inr ⟨p, us, j, v, rfl, rfl, .of hp, e4, fin' v g' r4 sl⟩

/-! ### argument lists, displays -/
def lowEA (K : PySem.W.Frag) (W : WX) (τ : ETa) : TA := fun σ H Q => ∃ Kp ρ ts vs X R, ρ.length = σ.length ∧ S K Kp H (ρ ++ ts) (σ ++ vs) ∧ ExOk K W Kp X ts vs σ ∧ τ X ρ R ∧
  ∀ ds ρ' us H' Kp', R ds ρ' → Same Kp Kp' → S K Kp' H' (ρ' ++ (ts ++ ds.map .own)) (σ ++ (vs ++ us.map some)) → ds.length = us.length → Q us H'
def DEA (X : Cx) (W : WX) (es : List Expr) (τ : ETa) : Prop := PA X es (lowEA X.K W τ)
def eaNil : ETa := fun _ ρ R => R [] ρ
def eaCons (τ : ETr) (τs : ETa) : ETa := fun X ρ R => τ X ρ fun d o ρ1 => o = true ∧ τs X ρ1 fun ds ρ2 => R (d :: ds) ρ2
variable {τs : ETa}
theorem ea_nil : DEA X W [] eaNil := PA.weak pa_nil fun σ H Q q => by
  obtain ⟨Kp, ρ, ts, vs, X, R, hl, s, x, h, q⟩ := q
  exact q [] ρ [] H Kp h (Same.refl _) (by simpa using s) rfl
theorem ea_cons (ha : DE X W e τ) (hr : DEA X W es τs) (hs : starEach (e :: es) X.env = (false, eval e X.env) :: starEach es X.env := by rfl) : DEA X W (e :: es) (eaCons τ τs) :=
  PA.weak (pa_cons ha hr hs) fun σ H Q q => by
    obtain ⟨Kp, ρ, ts, vs, X, R, hl, s, x, h, q⟩ := q
    have ht := s.lenT hl
    refine ⟨Kp, ρ, ts, vs, X, _, hl, s, x, h, fun d o ρ1 y H1 K1 hb sm s1 => ?_⟩
    obtain ⟨rfl, hb⟩ := hb
    have hl1 := s1.lenR ht (by simp)
    refine ⟨K1, ρ1, _, _, X, _, hl1, s1, x.push sm ht (by simp), hb, fun ds ρ2 us H2 K2 hc sm2 s2 hlen => ?_⟩
    refine q (d :: ds) ρ2 (y :: us) H2 K2 hc (sm.trans sm2) ?_ (by simp [hlen])
    simpa [List.append_assoc, TC] using s2
def eTup (τs : ETa) : ETr := fun X ρ R => τs X ρ fun ds ρ' => ds.length ≤ sizeLine ∧ R (.tup ds) true ρ'
def eLst (τs : ETa) : ETr := fun X ρ R => τs X ρ fun ds ρ' => ds.length ≤ sizeLine ∧ R (.lst ds) true ρ'
theorem e_tup {x1 : Nat} (h : DEA X W es τs) : DE X W (.Tuple es x1 pos) (eTup τs) := PE.weak (pe_tup h) fun σ H Q q => by
  obtain ⟨Kp, ρ, ts, vs, X, R, hl, s, x, h, q⟩ := q
  have ht := s.lenT hl
  refine ⟨Kp, ρ, ts, vs, X, _, hl, s, x, h, fun ds ρ2 us H2 K2 hc sm2 s2 hlen => ⟨hlen ▸ hc.1, fun p hp => ?_⟩⟩
  have hl2 := s2.lenR ht (by simp [hlen])
  rw [← List.append_assoc, ← List.append_assoc] at s2
  obtain ⟨f, rr, nd, mu, kp, sub, fin⟩ := s2.collect (by simp [hl2, ht])
  refine q _ true ρ2 _ _ K2 hc.2 sm2 ?_
  rw [← List.append_assoc, ← List.append_assoc]
  have sp := same_upd (o := .tup us) hp
  exact fin _ (.tup ds) (.ref p) f (fun a o e _ => sp a o e) (.tup upd_same (rr.same sp)) nd (mu.keep (.of_same sp)) fun a m => .inl m
theorem e_lst (h : DEA X W es τs) : DE X W (.List es pos) (eLst τs) := PE.weak (pe_lst h) fun σ H Q q => by
  obtain ⟨Kp, ρ, ts, vs, X, R, hl, s, x, h, q⟩ := q
  have ht := s.lenT hl
  refine ⟨Kp, ρ, ts, vs, X, _, hl, s, x, h, fun ds ρ2 us H2 K2 hc sm2 s2 hlen => ⟨hlen ▸ hc.1, fun p hp => ?_⟩⟩
  have hl2 := s2.lenR ht (by simp [hlen])
  rw [← List.append_assoc, ← List.append_assoc] at s2
  obtain ⟨f, rr, nd, mu, kp, sub, fin⟩ := s2.collect (by simp [hl2, ht])
  refine q _ true ρ2 _ _ K2 hc.2 sm2 ?_
  rw [← List.append_assoc, ← List.append_assoc]
  have sp := same_upd (o := .lst us) hp
  refine fin _ (.lst ds) (.ref p) (p :: f) (fun a o e _ => sp a o e) (.lst upd_same (rr.same sp)) (List.nodup_cons.mpr ⟨fun m => mu.isSome m hp, nd⟩) (fun a m => ?_) fun a m => ?_
  · rcases List.mem_cons.mp m with rfl | m
    · rw [upd_same]; trivial
    · exact (mu.keep (.of_same sp)) a m
  · rcases List.mem_cons.mp m with rfl | m
    · exact .inr hp
    · exact .inl m
/-- a built-in or a pure def called with arguments whose making changes things: what is handed in is dropped behind it -/
def eCallM (m : DC) (τs : ETa) : ETr := fun X ρ R => τs X ρ fun ds ρ' => m ds fun d o => o = true ∧ R d true ρ'
theorem S.reps {K : PySem.W.Frag} {Kp H : Hp} {ρ : Cells} {σ : L2.St} {ds : List D} {us : List V} (s : S K Kp H (ρ ++ ds.map .own) (σ ++ us.map some)) (hl : ρ.length = σ.length) : ∃ f, Reps K H ds us f := by
  obtain ⟨f, rr, _⟩ := s.collect hl
  exact ⟨f, rr⟩
theorem low_ecall {m : DC} {σ : L2.St} {H : Hp} {Q : VK} {K : PySem.W.Frag} (q : lowE K W (eCallM m τs) σ H Q) : lowEA K W τs σ H fun vs H1 => rC K m vs H1 Q := by
  obtain ⟨Kp, ρ, ts, vs, X, R, hl, s, x, h, q⟩ := q
  have ht := s.lenT hl
  refine ⟨Kp, ρ, ts, vs, X, _, hl, s, x, h, fun ds ρ2 us H2 K2 hc sm2 s2 hlen => ?_⟩
  have hl2 := s2.lenR ht (by simp [hlen])
  have s3 := s2
  rw [← List.append_assoc, ← List.append_assoc] at s3
  obtain ⟨f, rr⟩ := s3.reps (by simp [hl2, ht])
  refine ⟨ds, f, _, rr, hc, fun d o v H' hr sm3 rs => ?_⟩
  obtain ⟨rfl, hr⟩ := hr
  obtain ⟨f, fr⟩ := rs
  exact q _ _ _ _ _ K2 hr sm2 ((s2.drop2 hl2 ht).pushS sm3 fr)
variable {x : Str} {p : Pos} {id T : String} {m : DC}
theorem e_callT (hc : DCall X (.type T) m) (hg : Gl X x) (hm : X.mg x = none) (hv : bootBuiltins x = some (.type T)) (ha : DEA X W (e :: es) τs) (hn : x ≠ "__name__" := by decide) (hdb : (x == ("__debug__" : Str)) = false := by decide)
    (he : starEach (e :: es) X.env = (false, eval e X.env) :: starEach es X.env := by rfl) (hpl : (backTo pos (starEach es X.env)).any (·.1) = false := by rfl) : DE X W (.Call (.Name x p) (e :: es) [] pos) (eCallM m τs) :=
  PE.weak (pe_callTy hc hg hm hv ha hn hdb he hpl) fun σ H Q q => low_ecall q
end
end DL

namespace DL
open PySem PySem.Spec PyProof.Rows L2
set_option linter.all false
set_option Elab.async false
set_option maxRecDepth 100000
set_option maxHeartbeats 1000000

/-! ## D11: tests, methods of a named list, defs that change what they are handed -/
section
variable {X : Cx} {W : WX} {a b c e : Expr} {es : List Expr} {τ τa τb : ETr} {pos : Pos}
/-! ### tests -/
def lowET (K : PySem.W.Frag) (W : WX) (τ : ETt) : TT := fun σ H Q => ∃ Kp ρ ts vs X R, ρ.length = σ.length ∧ S K Kp H (ρ ++ ts) (σ ++ vs) ∧ ExOk K W Kp X ts vs σ ∧ τ X ρ R ∧
  ∀ b ρ' H' Kp', R b ρ' → Same Kp Kp' → S K Kp' H' (ρ' ++ ts) (σ ++ vs) → Q b H'
def DET (X : Cx) (W : WX) (e : Expr) (τ : ETt) : Prop := PT X e (lowET X.K W τ)
def etPure (τ : PTt) : ETt := fun X ρ R => τ ⟨ρ.map Cell.data, fun cls => X cls ρ⟩ fun b => R b ρ
theorem et_pure {τ : PTt} (h : DPT X W e τ) : DET X W e (etPure τ) := PT.weak h fun σ H Q q => by
  obtain ⟨Kp, ρ, ts, vs, X, R, hl, s, x, h, q⟩ := q
  exact ⟨_, _, x.sp s hl, h, fun b H' hb sm => q _ _ _ Kp hb (Same.refl _) (s.step sm)⟩
def etVal (τ : ETr) : ETt := fun X ρ R => τ X ρ fun d o ρ' => o = true ∧ ∃ k, d = .bl k ∧ R k ρ'
theorem low_etest {t : TE} {τ : ETr} (h : ∀ σ H Q, lowE X.K W τ σ H Q → t σ H Q) {σ : L2.St} {H : Hp} {Q : Bool → Hp → Prop} (q : lowET X.K W (etVal τ) σ H Q) : t σ H fun x H1 => ∃ c, x = .bl c ∧ Q c H1 := by
  obtain ⟨Kp, ρ, ts, vs, X, R, hl, s, x, h1, q⟩ := q
  have ht := s.lenT hl
  refine h _ _ _ ⟨Kp, ρ, ts, vs, X, _, hl, s, x, h1, fun d o ρ1 y H1 K1 hb sm s1 => ?_⟩
  obtain ⟨rfl, k, rfl, hr⟩ := hb
  have hl1 := s1.lenR ht (by simp)
  have s2 := s1
  rw [← List.append_assoc, ← List.append_assoc] at s2
  obtain ⟨w, g, e, r⟩ := s2.last (by simp [hl1, ht]) (TC_data true (.bl k) y)
  cases e
  exact ⟨k, r.bl_inv.1, q _ _ _ K1 hr sm (s1.drop2 hl1 ht)⟩
theorem et_cmp {op : CmpOp} {m : DM} (ho : DOp X (compareOp op) m) (ha : DE X W a τa) (hb : DE X W b τb) (hm : behindInMarks op b = false := by first | exact nomark _ | rfl) : DET X W (.Compare a [op] [b] pos) (etVal (eBin m τa τb)) :=
  PT.weak (pt_cmpR ho ha hb hm) fun σ H Q q => low_etest (fun _ _ _ x => low_ebin x) q
variable {tA tB : ETt} {rest : List Expr}
def DEW (X : Cx) (W : WX) (e : Expr) (τ : ETt) : Prop := PW X e (lowET X.K W τ)
def etAnd (t u : ETt) : ETt := fun X ρ R => t X ρ fun c ρ1 => if c = true then u X ρ1 R else R false ρ1
def etOr (t u : ETt) : ETt := fun X ρ R => t X ρ fun c ρ1 => if c = true then R true ρ1 else u X ρ1 R
def etNot (t : ETt) : ETt := fun X ρ R => t X ρ fun c ρ1 => R (!c) ρ1
theorem S.lenR0 {K : PySem.W.Frag} {Kp H : Hp} {ρ ts : Cells} {σ vs : L2.St} (s : S K Kp H (ρ ++ ts) (σ ++ vs)) (ht : ts.length = vs.length) : ρ.length = σ.length := by
  have := s.len; simp at this; omega
def eIf (t : ETt) (τa τb : ETr) : ETr := fun X ρ R => t X ρ fun c ρ1 => if c = true then τa X ρ1 R else τb X ρ1 R
theorem e_if (hc : DET X W c tA) (ha : DE X W a τa) (hb : DE X W b τb) : DE X W (.IfExp c a b pos) (eIf tA τa τb) := by
  refine PE.weak (pe_ifExp hc ha hb) fun σ H Q q => ?_
  obtain ⟨Kp, ρ, ts, vs, X, R, hl, s, x, h1, q⟩ := q
  have ht := s.lenT hl
  refine ⟨Kp, ρ, ts, vs, X, _, hl, s, x, h1, fun c ρ1 H1 K1 hb sm s1 => ?_⟩
  cases c with
  | false => exact ⟨K1, ρ1, ts, vs, X, R, s1.lenR0 ht, s1, x.grow sm, hb, fun d o ρ' v H' Kp' hr s5 => q d o ρ' v H' Kp' hr (sm.trans s5)⟩
  | true => exact ⟨K1, ρ1, ts, vs, X, R, s1.lenR0 ht, s1, x.grow sm, hb, fun d o ρ' v H' Kp' hr s5 => q d o ρ' v H' Kp' hr (sm.trans s5)⟩
end

/-! ### one cell changed in its place -/
def reC (c : Cell) (d : D) : Cell := match c with
  | .own _ => .own d
  | .pin _ v => .pin d v
  | _ => .no
section
variable {K : PySem.W.Frag} {W : WX} {Kp Kp' H H' : Hp} {ρ ρ' ts : Cells} {σ vs : L2.St}
theorem S.untake {d : D} {c : Cell} {v : V} {i : Nat} (s : S K Kp H (ρ ++ (ts ++ [.own d])) (σ ++ (vs ++ [some v]))) (hl : ρ.length = σ.length) (e : σ[i]? = some (some v)) (hi : i < ρ.length) : S K Kp H (ρ.set i (.own d) ++ ts) (σ ++ vs) := by
  have h2 := s.len
  simp at h2
  refine s.remap (by simp; omega) (fun j => if j = i then ρ.length + ts.length else j) (fun j c' h => ?_) fun a b c1 c2 h1 h2' n1 n2 e' => ?_
  · by_cases hj : j = i
    · subst hj
      rw [List.getElem?_append_left (by simpa using hi), List.getElem?_set_self hi] at h
      cases h
      refine .inr ⟨.own d, ?_, .refl _, ?_⟩
      · rw [if_pos rfl, List.getElem?_append_right (by omega), List.getElem?_append_right (by omega)]
        have : ρ.length + ts.length - ρ.length - ts.length = 0 := by omega
        rw [this]; rfl
      · rw [if_pos rfl, List.getElem?_append_left (hl ▸ hi), e]
        have e1 : (σ ++ (vs ++ [some v]))[ρ.length + ts.length]? = (vs ++ [some v])[ρ.length + ts.length - σ.length]? := List.getElem?_append_right (by omega)
        rw [e1, List.getElem?_append_right (by omega)]
        have : ρ.length + ts.length - σ.length - vs.length = 0 := by omega
        rw [this]; rfl
    · rw [if_neg hj]
      by_cases hjl : j < ρ.length
      · rw [List.getElem?_append_left (by simpa using hjl), List.getElem?_set_ne (Ne.symm hj)] at h
        refine .inr ⟨c', by rw [List.getElem?_append_left hjl]; exact h, .refl _, ?_⟩
        rw [List.getElem?_append_left (hl ▸ hjl), List.getElem?_append_left (hl ▸ hjl)]
      · have hjt : j < ρ.length + ts.length := by
          have := (List.getElem?_eq_some_iff.mp h).1
          simp at this; omega
        rw [List.getElem?_append_right (by simp; omega)] at h
        refine .inr ⟨c', by rw [List.getElem?_append_right (by omega), List.getElem?_append_left (by omega)]; simpa using h, .refl _, ?_⟩
        have e1 : (σ ++ (vs ++ [some v]))[j]? = (vs ++ [some v])[j - σ.length]? := List.getElem?_append_right (by omega)
        have e2 : (σ ++ vs)[j]? = vs[j - σ.length]? := List.getElem?_append_right (by omega)
        rw [e1, e2, List.getElem?_append_left (by omega)]
  · have ha : a < ρ.length + ts.length := by have := (List.getElem?_eq_some_iff.mp h1).1; simpa using this
    have hb : b < ρ.length + ts.length := by have := (List.getElem?_eq_some_iff.mp h2').1; simpa using this
    by_cases h3 : a = i <;> by_cases h4 : b = i
    · rw [h3, h4]
    · rw [if_pos h3, if_neg h4] at e'; omega
    · rw [if_neg h3, if_pos h4] at e'; omega
    · rw [if_neg h3, if_neg h4] at e'; exact e'
/-- an own cell whose place is known may be told so -/
theorem S.repin {d : D} {v : V} {i : Nat} (s : S K Kp H ρ σ) (e : ρ[i]? = some (.own d)) (ev : σ[i]? = some (some v)) : S K Kp H (ρ.set i (.pin d v)) σ := by
  obtain ⟨fp, s⟩ := s
  refine ⟨fp, by simpa using s.len, fun j c h => ?_, fun j h => s.out j (by simpa using h), s.nd, s.dj, s.kp, s.sub⟩
  have hi := (List.getElem?_eq_some_iff.mp e).1
  by_cases hj : j = i
  · subst hj
    rw [List.getElem?_set_self hi] at h; cases h
    obtain ⟨u, eu, ⟨⟨w, ew, r⟩, m⟩⟩ := s.cell j _ e
    rw [ev] at eu; cases eu
    cases ew
    exact ⟨_, ev, ⟨rfl, r⟩, m⟩
  · rw [List.getElem?_set_ne (Ne.symm hj)] at h
    exact s.cell j c h
/-- taken out, changed, put back -/
theorem S.change {c : Cell} {d : D} {i : Nat} (s : S K Kp H (ρ ++ ts) (σ ++ vs)) (hl : ρ.length = σ.length) (e : ρ[i]? = some c) (hc : c = .own d ∨ ∃ v, c = .pin d v) :
    ∃ v f, σ[i]? = some (some v) ∧ Rep K H d v f ∧ MutAll H f ∧ ∀ (H' : Hp) (d' : D) (g : List Addr), (∀ a o, H a = some o → a ∉ f → H' a = some o) → Rep K H' d' v g → g.Nodup → MutAll H' g → (∀ a ∈ g, a ∈ f ∨ H a = none) →
      S K Kp H' (ρ.set i (reC c d') ++ ts) (σ ++ vs) := by
  have ht := s.lenT hl
  have hi := (List.getElem?_eq_some_iff.mp e).1
  obtain ⟨v, ev, s2⟩ := s.take hl e hc
  rw [← List.append_assoc, ← List.append_assoc] at s2
  obtain ⟨f, rr, nd, mu, kp, sub, fin⟩ := (show S K Kp H ((ρ.set i .no ++ ts) ++ [d].map .own) ((σ ++ vs) ++ [v].map some) from s2).collect (by simp [hl, ht])
  obtain ⟨w, ew, r⟩ := rr.one_inv
  cases ew
  refine ⟨v, f, ev, r, mu, fun H' d' g h1 h2 h3 h4 h5 => ?_⟩
  have s3 := fin H' d' v g h1 h2 h3 h4 h5
  rw [List.append_assoc, List.append_assoc] at s3
  have s4 := s3.untake (c := c) (by simpa using hl) ev (by simpa using hi)
  rw [List.set_set] at s4
  rcases hc with rfl | ⟨v0, rfl⟩
  · exact s4
  · have hv : v0 = v := by
      obtain ⟨fp, sf⟩ := s
      obtain ⟨u, eu, ⟨h6, _⟩, _⟩ := sf.cell i _ (by rw [List.getElem?_append_left hi]; exact e)
      rw [List.getElem?_append_left (hl ▸ hi), ev] at eu
      rw [h6] at eu; cases eu; rfl
    subst hv
    have := s4.repin (i := i) (d := d') (v := v0) (by rw [List.getElem?_append_left (by simpa using hi), List.getElem?_set_self hi]) (by rw [List.getElem?_append_left (hl ▸ hi)]; exact ev)
    rw [List.set_append_left _ _ (by simpa using hi), List.set_set] at this
    exact this
/-- .. taking in the last one -/
theorem S.change1 {c : Cell} {d dx : D} {w : V} {i : Nat} (s : S K Kp H (ρ ++ (ts ++ [.own dx])) (σ ++ (vs ++ [some w]))) (hl : ρ.length = σ.length) (e : ρ[i]? = some c) (hc : c = .own d ∨ ∃ v, c = .pin d v) :
    ∃ v f fx, σ[i]? = some (some v) ∧ Rep K H d v f ∧ Rep K H dx w fx ∧ (f ++ fx).Nodup ∧ MutAll H (f ++ fx) ∧ ∀ (H' : Hp) (d' : D) (g : List Addr), (∀ a o, H a = some o → a ∉ f ++ fx → H' a = some o) → Rep K H' d' v g → g.Nodup → MutAll H' g → (∀ a ∈ g, a ∈ f ++ fx ∨ H a = none) →
      S K Kp H' (ρ.set i (reC c d') ++ ts) (σ ++ vs) := by
  have ht := s.lenT hl
  simp at ht
  have hi := (List.getElem?_eq_some_iff.mp e).1
  obtain ⟨v, ev, s2⟩ := s.take hl e hc
  simp only [← List.append_assoc] at s2
  obtain ⟨f, rr, nd, mu, kp, sub, fin⟩ := (show S K Kp H ((ρ.set i .no ++ ts) ++ [dx, d].map .own) ((σ ++ vs) ++ [w, v].map some) from by simpa [List.append_assoc] using s2).collect (by simp [hl, ht])
  cases rr with
  | cons r1 rr =>
    obtain ⟨w2, e2, r2⟩ := rr.one_inv
    cases e2
    rename_i fx f2
    have nd2 : (f2 ++ fx).Nodup := List.perm_append_comm.nodup_iff.mp nd
    refine ⟨v, f2, fx, ev, r2, r1, nd2, fun a m => mu a (by simp at m ⊢; exact m.symm), fun H' d' g h1 h2 h3 h4 h5 => ?_⟩
    have s3 := fin H' d' v g (fun a o q m => h1 a o q (by simp at m ⊢; exact m.symm)) h2 h3 h4 (fun a m => (h5 a m).imp (fun z => by simp at z ⊢; exact z.symm) id)
    rw [List.append_assoc, List.append_assoc] at s3
    have s4 := s3.untake (c := c) (by simpa using hl) ev (by simpa using hi)
    rw [List.set_set] at s4
    rcases hc with rfl | ⟨v0, rfl⟩
    · exact s4
    · have hv : v0 = v := by
        obtain ⟨fp, sf⟩ := s
        obtain ⟨u, eu, ⟨h6, _⟩, _⟩ := sf.cell i _ (by rw [List.getElem?_append_left hi]; exact e)
        rw [List.getElem?_append_left (hl ▸ hi), ev] at eu
        rw [h6] at eu; cases eu; rfl
      subst hv
      have := s4.repin (i := i) (d := d') (v := v0) (by rw [List.getElem?_append_left (by simpa using hi), List.getElem?_set_self hi]) (by rw [List.getElem?_append_left (hl ▸ hi)]; exact ev)
      rw [List.set_append_left _ _ (by simpa using hi), List.set_set] at this
      exact this
end
end DL

namespace DL
open PySem PySem.Spec PyProof.Rows L2
set_option linter.all false
set_option Elab.async false
set_option maxRecDepth 100000
set_option maxHeartbeats 1000000

/-! ## D12: methods of a named list; items stored; defs that change what they are handed -/
def Cell.mutD : Cell → Option D
  | .own d => some d
  | .pin d _ => some d
  | _ => none
theorem mutD_inv {c : Cell} {d : D} (h : c.mutD = some d) : (c = .own d ∨ ∃ v, c = .pin d v) ∧ c.data = some d := by
  cases c <;> simp [Cell.mutD] at h
  · subst h; exact ⟨.inl rfl, rfl⟩
  · subst h; exact ⟨.inr ⟨_, rfl⟩, rfl⟩
section
variable {K : PySem.W.Frag} {W : WX} {Kp Kp' H H' : Hp} {ρ ρ' ts : Cells} {σ vs : L2.St}
/-- a list whose items are plain, put into another state -/
theorem S.chI {c : Cell} {xs : List D} {i : Nat} (s : S K Kp H (ρ ++ ts) (σ ++ vs)) (hl : ρ.length = σ.length) (e : ρ[i]? = some c) (hc : c.mutD = some (.lst xs)) (hi : immL xs = true) :
    ∃ p us, σ[i]? = some (some (.ref p)) ∧ H p = some (.lst us) ∧ Reps K H xs us [] ∧ ∀ ys ws, Reps K H ys ws [] → S K Kp (upd H p (.lst ws)) (ρ.set i (reC c (.lst ys)) ++ ts) (σ ++ vs) := by
  obtain ⟨hc, hd⟩ := mutD_inv hc
  obtain ⟨v, f, ev, r, mu, fin⟩ := s.change hl e hc
  obtain ⟨p, us, f', rfl, hp, r1, rfl⟩ := r.lst_inv
  have e0 := r1.imm hi
  subst e0
  refine ⟨p, us, ev, hp, r1, fun ys ws r2 => ?_⟩
  have kp : Kept H (upd H p (.lst ws)) [] := ⟨fun a m => (nomatch m), fun a ts e => by rw [upd_ne (show a ≠ p from fun z => by rw [z, hp] at e; exact tno ts e)]; exact e⟩
  exact fin (upd H p (.lst ws)) (.lst ys) [p] (fun a o e n => by rw [upd_ne (show a ≠ p from fun z => n (by rw [z]; exact List.mem_singleton.mpr rfl))]; exact e) (.lst upd_same (r2.keep kp)) (List.nodup_cons.mpr ⟨List.not_mem_nil, List.nodup_nil⟩)
    (fun a m => by rw [List.mem_singleton.mp m, upd_same]; trivial) fun a m => .inl m
/-- item by item, nothing that can be changed -/
def RepsI (K : PySem.W.Frag) (H : Hp) (ds : List D) (vs : List V) : Prop := ds.length = vs.length ∧ ∀ (i : Nat) (d : D) (v : V), ds[i]? = some d → vs[i]? = some v → Rep K H d v []
theorem Reps.toI {ds : List D} {vs : List V} (r : Reps K H ds vs []) : RepsI K H ds vs := ⟨r.len, fun i d v e1 e2 => by
  obtain ⟨w, f, e3, r1, s⟩ := r.get e1
  rw [e2] at e3; cases e3
  have : f = [] := List.eq_nil_iff_forall_not_mem.mpr fun a m => (nomatch s a m)
  subst this; exact r1⟩
theorem RepsI.to : ∀ {ds : List D} {vs : List V}, RepsI K H ds vs → Reps K H ds vs []
  | [], [], _ => .nil
  | d :: ds, v :: vs, ⟨hl, h⟩ => .cons (f := []) (h 0 d v rfl rfl) (RepsI.to ⟨by simpa using hl, fun i e w h1 h2 => h (i + 1) e w (by simpa using h1) (by simpa using h2)⟩)
  | [], _ :: _, ⟨hl, _⟩ => by simp at hl
  | _ :: _, [], ⟨hl, _⟩ => by simp at hl
theorem Reps.dropLast {ds : List D} {vs : List V} (r : Reps K H ds vs []) : Reps K H ds.dropLast vs.dropLast [] := by
  have ri := r.toI
  refine RepsI.to ⟨by simp [ri.1], fun i d v h1 h2 => ?_⟩
  rw [List.getElem?_dropLast] at h1 h2
  split at h1
  · split at h2
    · exact ri.2 i d v h1 h2
    · cases h2
  · cases h1
theorem Reps.erase {ds : List D} {vs : List V} (r : Reps K H ds vs []) (k : Nat) : Reps K H (ds.eraseIdx k) (vs.eraseIdx k) [] := by
  have ri := r.toI
  refine RepsI.to ⟨by simp [List.length_eraseIdx, ri.1], fun i d v h1 h2 => ?_⟩
  rw [List.getElem?_eraseIdx] at h1 h2
  split at h1
  · rename_i hi; rw [if_pos hi] at h2; exact ri.2 i d v h1 h2
  · rename_i hi; rw [if_neg hi] at h2; exact ri.2 _ d v h1 h2
theorem Reps.set {ds : List D} {vs : List V} (r : Reps K H ds vs []) {k : Nat} {d : D} {v : V} (rd : Rep K H d v []) : Reps K H (ds.set k d) (vs.set k v) [] := by
  have ri := r.toI
  refine RepsI.to ⟨by simp [ri.1], fun i e w h1 h2 => ?_⟩
  rw [List.getElem?_set] at h1 h2
  by_cases hk : k = i
  · subst hk
    simp at h1 h2
    obtain ⟨_, rfl⟩ := h1
    obtain ⟨_, rfl⟩ := h2
    exact rd
  · simp [hk] at h1 h2
    exact ri.2 i e w h1 h2
theorem Reps.reverse {ds : List D} {vs : List V} (r : Reps K H ds vs []) : Reps K H ds.reverse vs.reverse [] := by
  induction ds generalizing vs with
  | nil => cases r; exact .nil
  | cons d ds ih =>
    have ri := r.toI
    cases vs with
    | nil => have := ri.1; simp at this
    | cons v vs =>
      rw [List.reverse_cons, List.reverse_cons]
      have r2 : Reps K H ds vs [] := RepsI.to ⟨by have := ri.1; simpa using this, fun i e w h1 h2 => ri.2 (i + 1) e w (by simpa using h1) (by simpa using h2)⟩
      exact (ih r2).app (.one (ri.2 0 d v rfl rfl))
theorem Reps.insert {ds : List D} {vs : List V} (r : Reps K H ds vs []) (k : Nat) {d : D} {v : V} (rd : Rep K H d v []) : Reps K H (ds.take k ++ [d] ++ ds.drop k) (vs.take k ++ [v] ++ vs.drop k) [] := by
  have ri := r.toI
  have r1 : Reps K H (ds.take k) (vs.take k) [] := RepsI.to ⟨by simp [ri.1], fun i e w h1 h2 => by
    rw [List.getElem?_take] at h1 h2
    split at h1
    · rename_i hi; rw [if_pos hi] at h2; exact ri.2 i e w h1 h2
    · cases h1⟩
  have r2 : Reps K H (ds.drop k) (vs.drop k) [] := RepsI.to ⟨by simp [ri.1], fun i e w h1 h2 => by
    rw [List.getElem?_drop] at h1 h2
    exact ri.2 _ e w h1 h2⟩
  exact (r1.app (.one rd)).app r2
end
section
variable {X : Cx} {W : WX} {a b c e : Expr} {es : List Expr} {τ τa τb : ETr} {pos : Pos} {apos cpos : Pos} {o : Expr}
theorem Rep.tyL {K : PySem.W.Frag} {H : Hp} {xs : List D} {v : V} {f : List Addr} (r : Rep K H (.lst xs) v f) : tyV K "list" v H := by
  obtain ⟨p, us, f', rfl, hp, r1, rfl⟩ := r.lst_inv
  exact .inl ⟨rfl, us, .of hp⟩
theorem S.nonR {K : PySem.W.Frag} {Kp H : Hp} {ρ ts : Cells} {σ vs : L2.St} (s : S K Kp H (ρ ++ ts) (σ ++ vs)) : S K Kp H (ρ ++ (ts ++ [.own .non])) (σ ++ (vs ++ [some .non])) :=
  s.push' (Sm.refl s.tab) (Fresh.imm rfl .non)
/-- x.append(e) -/
def eAppend (i : Nat) (τ : ETr) : ETr := fun X ρ R => (∃ c xs, ρ[i]? = some c ∧ c.data = some (.lst xs)) ∧ τ X ρ fun d o ρ1 => o = true ∧ ∃ c xs, ρ1[i]? = some c ∧ c.mutD = some (.lst xs) ∧ xs.length < sizeLine ∧ R .non true (ρ1.set i (reC c (.lst (xs ++ [d]))))
theorem e_append {i : Nat} (ho : PE X o (tVar i)) (he : DE X W e τ)
    (hbase : attributeBase o "append" X.env (eval o X.env) = eval o X.env := by rfl)
    (hfew : ((backTo cpos (starEach [e] X.env)).all (fun x => !x.1) && (backToKw cpos (keywordEach [] X.env)).all (fun x => x.1.isSome)
      && decide (([e] : List Expr).length + ([] : List Keyword).length + (if ([] : List Keyword).isEmpty then 0 else 1) < 30)) = true := by rfl)
    (hline : (apos.endLine == cpos.line) = true := by rfl) (hs : starEach [e] X.env = (false, eval e X.env) :: starEach [] X.env := by rfl) (hplain : (backTo cpos (starEach [] X.env)).any (·.1) = false := by rfl) :
    DE X W (.Call (.Attribute o "append" apos) [e] [] cpos) (eAppend i τ) :=
  PE.weak (pe_bm PySem.F.plainAttrs_list PySem.F.slot_list_append PySem.F.type_list_append mt_append ho (pa_cons he pa_nil hs) hbase hfew hline hs hplain) fun σ H Q q => by
    obtain ⟨Kp, ρ, ts, vs, X, R, hl, s, x, ⟨⟨c0, xs0, ec0, ed0⟩, h⟩, q⟩ := q
    have ht := s.lenT hl
    have hi0 := (List.getElem?_eq_some_iff.mp ec0).1
    obtain ⟨v0, f0, e0, r0⟩ := s.rep (i := i) (by rw [List.getElem?_append_left hi0]; exact ec0) ed0
    rw [List.getElem?_append_left (hl ▸ hi0)] at e0
    refine ⟨v0, e0, r0.tyL, Kp, ρ, ts, vs, X, _, hl, s, x, h, fun d o ρ1 y H1 K1 hb sm s1 => ?_⟩
    obtain ⟨rfl, c, xs, ec, hm, hz, hr⟩ := hb
    have hl1 := s1.lenR ht (by simp)
    obtain ⟨hc, hd⟩ := mutD_inv hm
    obtain ⟨v, f, fx, ev, r1, r2, nd, mu, fin⟩ := S.change1 s1 hl1 ec hc
    rw [e0] at ev; cases ev
    obtain ⟨p, us, f', rfl, hp, r3, rfl⟩ := r1.lst_inv
    have nd' := List.nodup_cons.mp (show (p :: (f' ++ fx)).Nodup from nd)
    refine ⟨p, us, y, rfl, rfl, hp, r3.len ▸ hz, q _ true _ _ _ K1 hr sm (S.nonR ?_)⟩
    have kp : ∀ g, p ∉ g → Kept H1 (upd H1 p (.lst (us ++ [y]))) g := fun g hg => ⟨fun a m o e => by rw [upd_ne (show a ≠ p from fun z => hg (z ▸ m))]; exact e, fun a ts e => by rw [upd_ne (show a ≠ p from fun z => by rw [z, hp] at e; exact tno ts e)]; exact e⟩
    refine fin _ (.lst (xs ++ [d])) (p :: (f' ++ fx)) (fun a o e n => by rw [upd_ne (show a ≠ p from fun z => n (by rw [z]; exact List.mem_cons_self))]; exact e) (.lst upd_same ((r3.app (.one r2)).keep (kp _ nd'.1))) nd (fun a m => ?_) fun a m => .inl m
    rcases List.mem_cons.mp m with rfl | m
    · rw [upd_same]; trivial
    · exact MutAll.keep (fp := f' ++ fx) (fun a m => mu a (List.mem_cons_of_mem _ m)) (kp _ nd'.1) a m
/-- x.pop() -/
def ePop (i : Nat) : ETr := fun _ ρ R => ∃ c xs d, ρ[i]? = some c ∧ c.mutD = some (.lst xs) ∧ immL xs = true ∧ xs.getLast? = some d ∧ R d true (ρ.set i (reC c (.lst xs.dropLast)))
/-- x.pop(e), a place from the left -/
def ePopAt (i : Nat) (τ : ETr) : ETr := fun X ρ R => (∃ c xs, ρ[i]? = some c ∧ c.data = some (.lst xs)) ∧ τ X ρ fun k o ρ1 => o = true ∧ ∃ c xs, ∃ (j : Nat), ∃ d, k = .int j ∧ ρ1[i]? = some c ∧ c.mutD = some (.lst xs) ∧ immL xs = true ∧ xs[j]? = some d ∧ j < 4611686018427387904 ∧ R d true (ρ1.set i (reC c (.lst (xs.eraseIdx j))))
theorem e_popAt {i : Nat} (ho : PE X o (tVar i)) (he : DE X W e τ)
    (hbase : attributeBase o "pop" X.env (eval o X.env) = eval o X.env := by rfl)
    (hfew : ((backTo cpos (starEach [e] X.env)).all (fun x => !x.1) && (backToKw cpos (keywordEach [] X.env)).all (fun x => x.1.isSome)
      && decide (([e] : List Expr).length + ([] : List Keyword).length + (if ([] : List Keyword).isEmpty then 0 else 1) < 30)) = true := by rfl)
    (hline : (apos.endLine == cpos.line) = true := by rfl) (hs : starEach [e] X.env = (false, eval e X.env) :: starEach [] X.env := by rfl) (hplain : (backTo cpos (starEach [] X.env)).any (·.1) = false := by rfl) :
    DE X W (.Call (.Attribute o "pop" apos) [e] [] cpos) (ePopAt i τ) :=
  PE.weak (pe_bm PySem.F.plainAttrs_list PySem.F.slot_list_pop PySem.F.type_list_pop mt_popAt ho (pa_cons he pa_nil hs) hbase hfew hline hs hplain) fun σ H Q q => by
    obtain ⟨Kp, ρ, ts, vs, X, R, hl, s, x, ⟨⟨c0, xs0, ec0, ed0⟩, h⟩, q⟩ := q
    have ht := s.lenT hl
    have hi0 := (List.getElem?_eq_some_iff.mp ec0).1
    obtain ⟨v0, f0, e0, r0⟩ := s.rep (i := i) (by rw [List.getElem?_append_left hi0]; exact ec0) ed0
    rw [List.getElem?_append_left (hl ▸ hi0)] at e0
    refine ⟨v0, e0, r0.tyL, Kp, ρ, ts, vs, X, _, hl, s, x, h, fun k o ρ1 y H1 K1 hb sm s1 => ?_⟩
    obtain ⟨rfl, c, xs, j, d, rfl, ec, hm, hi, hj, hj2, hr⟩ := hb
    have hl1 := s1.lenR ht (by simp)
    have s1' := s1
    simp only [← List.append_assoc] at s1'
    obtain ⟨w2, g2, e2, r2⟩ := s1'.last (by simp [hl1, ht]) (TC_data true (.int j) y)
    cases e2
    have ey := r2.int_inv.1
    subst ey
    obtain ⟨p, us, ev, hp, r, fin⟩ := S.chI (s1.drop2 hl1 ht) hl1 ec hm hi
    rw [e0] at ev; cases ev
    have hlen : j < xs.length := (List.getElem?_eq_some_iff.mp hj).1
    obtain ⟨w, f, ew, rw', sf⟩ := r.get hj
    have f0 : f = [] := List.eq_nil_iff_forall_not_mem.mpr fun a m => (nomatch sf a m)
    subst f0
    refine ⟨p, us, (j : Int), j, w, rfl, rfl, hp, by omega, by omega, ?_, ew, ?_⟩
    · rw [seqIndex_of (by omega) (by rw [← r.len]; omega)]; simp
    refine q d true _ _ _ K1 hr sm ((fin _ _ (r.erase j)).pushS (Same.refl _) ⟨?_, List.nodup_nil, fun a m => (nomatch m), fun a m => (nomatch m)⟩)
    exact rw'.keep ⟨fun a m => (nomatch m), fun a ts e => by rw [upd_ne (show a ≠ p from fun z => by rw [z, hp] at e; exact tno ts e)]; exact e⟩
end
end DL

namespace DL
open PySem PySem.Spec PyProof.Rows L2
set_option linter.all false
set_option Elab.async false
set_option maxRecDepth 100000
set_option maxHeartbeats 1000000

/-! ## D13: defs that change what they are handed -/
def fins (fs : List (Option D)) (vs : List V) : Cells := List.zipWith (fun f v => match f with | some d => Cell.pin d v | none => .no) fs vs
abbrev DCE := List D → (D → List (Option D) → Prop) → (Value → List (Option D) → Prop) → Prop
/-- a def's promise: from the things handed in, it hands back a thing and leaves the others so -/
def ESp (K : PySem.W.Frag) (n : Nat) (G : DCE) : Sp := fun vs H Q E => ∃ Kp ds R Ex, vs.length = n ∧ ds.length = n ∧ S K Kp H (List.zipWith Cell.pin ds vs) (vs.map some) ∧ G ds R Ex ∧
  (∀ d fs v H', R d fs → fs.length = n → S K Kp H' (fins fs vs ++ [.own d]) (vs.map some ++ [some v]) → Q v H') ∧ (∀ cls fs H', Ex cls fs → fs.length = n → S K Kp H' (fins fs vs) (vs.map some) → E (cv K cls) none H')
abbrev Arg := D ⊕ Nat
abbrev ETn := EX → Cells → (List Arg → Cells → Prop) → Prop
def lefts : List Arg → List D
  | [] => []
  | .inl d :: as => d :: lefts as
  | .inr _ :: as => lefts as
def argN : List Arg → List Nat
  | [] => []
  | .inl _ :: as => argN as
  | .inr i :: as => i :: argN as
def argD : List Arg → Cells → Option (List D)
  | [], _ => some []
  | .inl d :: as, ρ => (argD as ρ).map (d :: ·)
  | .inr i :: as, ρ => match ρ[i]? with
    | some (.own d) => (argD as ρ).map (d :: ·)
    | some (.pin d _) => (argD as ρ).map (d :: ·)
    | _ => none
def newC : Option Cell → Option D → Cell
  | some (.own _), some d => .own d
  | some (.pin _ v), some d => .pin d v
  | _, _ => .no
def putF : List Arg → List (Option D) → Cells → Cells
  | .inl _ :: as, _ :: fs, ρ => putF as fs ρ
  | .inr i :: as, f :: fs, ρ => putF as fs (ρ.set i (newC ρ[i]? f))
  | _, _, ρ => ρ
inductive Mix (σ : L2.St) : List Arg → List V → List V → Prop
  | nil : Mix σ [] [] []
  | val {d : D} {as : List Arg} {u : V} {us all : List V} (h : Mix σ as us all) : Mix σ (.inl d :: as) (u :: us) (u :: all)
  | nm {i : Nat} {as : List Arg} {u : V} {us all : List V} (e : σ[i]? = some (some u)) (h : Mix σ as us all) : Mix σ (.inr i :: as) us (u :: all)
def lowEN (K : PySem.W.Frag) (W : WX) (τ : ETn) : TA := fun σ H Q => ∃ Kp ρ ts vs X R, ρ.length = σ.length ∧ S K Kp H (ρ ++ ts) (σ ++ vs) ∧ ExOk K W Kp X ts vs σ ∧ τ X ρ R ∧
  ∀ as ρ' us all H' Kp', R as ρ' → Same Kp Kp' → S K Kp' H' (ρ' ++ (ts ++ (lefts as).map .own)) (σ ++ (vs ++ us.map some)) → (lefts as).length = us.length → Mix σ as us all → Q all H'
def DEN (X : Cx) (W : WX) (es : List Expr) (τ : ETn) : Prop := PA X es (lowEN X.K W τ)
def enNil : ETn := fun _ ρ R => R [] ρ
def enVal (τ : ETr) (τs : ETn) : ETn := fun X ρ R => τ X ρ fun d o ρ1 => o = true ∧ τs X ρ1 fun as ρ2 => R (.inl d :: as) ρ2
def enName (i : Nat) (τs : ETn) : ETn := fun X ρ R => (∃ c d, ρ[i]? = some c ∧ c.data = some d) ∧ τs X ρ fun as ρ2 => R (.inr i :: as) ρ2
section
variable {X : Cx} {W : WX} {e : Expr} {es : List Expr} {τ : ETr} {τs : ETn} {pos : Pos}
theorem en_nil : DEN X W [] enNil := PA.weak pa_nil fun σ H Q q => by
  obtain ⟨Kp, ρ, ts, vs, X, R, hl, s, x, h, q⟩ := q
  exact q [] ρ [] [] H Kp h (Same.refl _) (by simpa [lefts] using s) rfl .nil
theorem en_val (ha : DE X W e τ) (hr : DEN X W es τs) (hs : starEach (e :: es) X.env = (false, eval e X.env) :: starEach es X.env := by rfl) : DEN X W (e :: es) (enVal τ τs) :=
  PA.weak (pa_cons ha hr hs) fun σ H Q q => by
    obtain ⟨Kp, ρ, ts, vs, X, R, hl, s, x, h, q⟩ := q
    have ht := s.lenT hl
    refine ⟨Kp, ρ, ts, vs, X, _, hl, s, x, h, fun d o ρ1 y H1 K1 hb sm s1 => ?_⟩
    obtain ⟨rfl, hb⟩ := hb
    have hl1 := s1.lenR ht (by simp)
    refine ⟨K1, ρ1, _, _, X, _, hl1, s1, x.push sm ht (by simp), hb, fun as ρ2 us all H2 K2 hc sm2 s2 hlen mx => ?_⟩
    refine q (.inl d :: as) ρ2 (y :: us) (y :: all) H2 K2 hc (sm.trans sm2) ?_ (by simp [lefts, hlen]) (.val mx)
    simpa [List.append_assoc, TC, lefts] using s2
theorem en_name {i : Nat} (ha : PE X e (tVar i)) (hr : DEN X W es τs) (hs : starEach (e :: es) X.env = (false, eval e X.env) :: starEach es X.env := by rfl) : DEN X W (e :: es) (enName i τs) :=
  PA.weak (pa_cons ha hr hs) fun σ H Q q => by
    obtain ⟨Kp, ρ, ts, vs, X, R, hl, s, x, ⟨⟨c, d, ec, ed⟩, h⟩, q⟩ := q
    have hi := (List.getElem?_eq_some_iff.mp ec).1
    obtain ⟨v0, _, e0, _⟩ := s.rep (i := i) (by rw [List.getElem?_append_left hi]; exact ec) ed
    rw [List.getElem?_append_left (hl ▸ hi)] at e0
    exact ⟨v0, e0, Kp, ρ, ts, vs, X, _, hl, s, x, h, fun as ρ2 us all H2 K2 hc sm2 s2 hlen mx => q (.inr i :: as) ρ2 us (v0 :: all) H2 K2 hc sm2 s2 hlen (.nm e0 mx)⟩
end
def idxA (b : Nat) : List Arg → Nat → List Nat
  | [], _ => []
  | .inl _ :: as, k => (b + k) :: idxA b as (k + 1)
  | .inr i :: as, k => i :: idxA b as k
theorem idxA_len (b : Nat) : ∀ (as : List Arg) (k : Nat), (idxA b as k).length = as.length
  | [], _ => rfl
  | .inl _ :: as, k => by simp [idxA, idxA_len b as]
  | .inr _ :: as, k => by simp [idxA, idxA_len b as]
theorem idxA_mem (b : Nat) : ∀ (as : List Arg) (k j : Nat), j ∈ idxA b as k → j ∈ argN as ∨ (b + k ≤ j ∧ j < b + k + (lefts as).length)
  | [], _, _, h => by simp [idxA] at h
  | .inl d :: as, k, j, h => by
    simp only [idxA, List.mem_cons] at h
    rcases h with rfl | h
    · exact .inr ⟨Nat.le_refl _, by simp [lefts]⟩
    · rcases idxA_mem b as (k + 1) j h with h | ⟨h1, h2⟩
      · exact .inl h
      · exact .inr ⟨by omega, by simp [lefts]; omega⟩
  | .inr i :: as, k, j, h => by
    simp only [idxA, List.mem_cons] at h
    rcases h with rfl | h
    · exact .inl (by simp [argN])
    · rcases idxA_mem b as k j h with h | h
      · exact .inl (by simp [argN, h])
      · exact .inr h
theorem idxA_nodup (b : Nat) : ∀ (as : List Arg) (k : Nat), (argN as).Nodup → (∀ i ∈ argN as, i < b) → (idxA b as k).Nodup
  | [], _, _, _ => by simp [idxA]
  | .inl d :: as, k, h1, h2 => by
    simp only [idxA]
    refine List.nodup_cons.mpr ⟨fun m => ?_, idxA_nodup b as (k + 1) h1 h2⟩
    rcases idxA_mem b as _ _ m with h | ⟨h, _⟩
    · have := h2 _ h; omega
    · omega
  | .inr i :: as, k, h1, h2 => by
    simp only [idxA]
    have h1' := List.nodup_cons.mp (show (i :: argN as).Nodup from h1)
    refine List.nodup_cons.mpr ⟨fun m => ?_, idxA_nodup b as k h1'.2 fun j hj => h2 j (by simp [argN, hj])⟩
    rcases idxA_mem b as _ _ m with h | ⟨h, _⟩
    · exact h1'.1 h
    · have := h2 i (by simp [argN]); omega
theorem argD_lt {ρ : Cells} : ∀ {as : List Arg} {ds : List D}, argD as ρ = some ds → (∀ i ∈ argN as, i < ρ.length) ∧ ds.length = as.length
  | [], ds, h => by simp [argD] at h; subst h; simp [argN]
  | .inl d :: as, ds, h => by
    simp only [argD, Option.map_eq_some_iff] at h
    obtain ⟨ds', h, rfl⟩ := h
    obtain ⟨a, b⟩ := argD_lt h
    exact ⟨a, by simp [b]⟩
  | .inr i :: as, ds, h => by
    simp only [argD] at h
    split at h
    · rename_i e
      simp only [Option.map_eq_some_iff] at h
      obtain ⟨ds', h, rfl⟩ := h
      obtain ⟨a, b⟩ := argD_lt h
      exact ⟨fun j hj => by rcases List.mem_cons.mp hj with rfl | hj; exact (List.getElem?_eq_some_iff.mp e).1; exact a j hj, by simp [b]⟩
    · rename_i e
      simp only [Option.map_eq_some_iff] at h
      obtain ⟨ds', h, rfl⟩ := h
      obtain ⟨a, b⟩ := argD_lt h
      exact ⟨fun j hj => by rcases List.mem_cons.mp hj with rfl | hj; exact (List.getElem?_eq_some_iff.mp e).1; exact a j hj, by simp [b]⟩
    · cases h
/-- the cells that are handed in -/
def cellsA (ρ : Cells) : List Arg → Cells
  | [] => []
  | .inl d :: as => .own d :: cellsA ρ as
  | .inr i :: as => ρ.getD i .no :: cellsA ρ as
theorem cellsA_eq {ρ ts : Cells} (hn : ∀ (as : List Arg), True) : ∀ (as : List Arg) (pre : List D), (∀ i ∈ argN as, i < ρ.length) →
    (idxA (ρ.length + ts.length) as pre.length).map (fun i => (ρ ++ (ts ++ (pre ++ lefts as).map Cell.own)).getD i .no) = cellsA ρ as
  | [], _, _ => rfl
  | .inl d :: as, pre, h => by
    simp only [idxA, cellsA, List.map_cons]
    have e1 : (ρ ++ (ts ++ (pre ++ lefts (.inl d :: as)).map Cell.own)).getD (ρ.length + ts.length + pre.length) .no = .own d := by
      rw [List.getD_eq_getElem?_getD, List.getElem?_append_right (by omega), List.getElem?_append_right (by omega)]
      have : ρ.length + ts.length + pre.length - ρ.length - ts.length = pre.length := by omega
      rw [this]; simp [lefts]
    rw [e1]
    have ih := cellsA_eq hn (ρ := ρ) (ts := ts) as (pre ++ [d]) h
    have e2 : pre ++ [d] ++ lefts as = pre ++ lefts (.inl d :: as) := by simp [lefts]
    rw [e2] at ih
    rw [← ih]; simp
  | .inr i :: as, pre, h => by
    simp only [idxA, cellsA, List.map_cons]
    have hi : i < ρ.length := h i (by simp [argN])
    have e1 : (ρ ++ (ts ++ (pre ++ lefts (.inr i :: as)).map Cell.own)).getD i .no = ρ.getD i .no := by
      rw [List.getD_eq_getElem?_getD, List.getElem?_append_left hi, List.getD_eq_getElem?_getD]
    rw [e1]
    rw [← cellsA_eq hn (ρ := ρ) (ts := ts) as pre fun j hj => h j (by simp [argN, hj])]
    rfl
theorem valsA_eq {σ vs : L2.St} : ∀ {as : List Arg} {us all : List V} (pre : List V), Mix σ as us all → (lefts as).length = us.length →
    (idxA (σ.length + vs.length) as pre.length).map (fun i => (σ ++ (vs ++ (pre ++ us).map some)).getD i none) = all.map some
  | _, _, _, _, .nil, _ => rfl
  | _, _, _, pre, .val (d := d) (as := as) (u := u) (us := us) (all := all) h, hl => by
    simp only [idxA, List.map_cons]
    have e1 : (σ ++ (vs ++ (pre ++ u :: us).map some)).getD (σ.length + vs.length + pre.length) none = some u := by
      rw [List.getD_eq_getElem?_getD, List.getElem?_append_right (by omega), List.getElem?_append_right (by omega)]
      have : σ.length + vs.length + pre.length - σ.length - vs.length = pre.length := by omega
      rw [this]; simp
    rw [e1]
    have ih := valsA_eq (σ := σ) (vs := vs) (pre ++ [u]) h (by simpa [lefts] using hl)
    have e2 : pre ++ [u] ++ us = pre ++ u :: us := by simp
    rw [e2] at ih
    rw [← ih]; simp
  | _, _, _, pre, .nm (i := i) (as := as) (u := u) (us := us) (all := all) e h, hl => by
    simp only [idxA, List.map_cons]
    have hi : i < σ.length := (List.getElem?_eq_some_iff.mp e).1
    have e1 : (σ ++ (vs ++ (pre ++ us).map some)).getD i none = some u := by
      rw [List.getD_eq_getElem?_getD, List.getElem?_append_left hi, e]; rfl
    rw [e1, valsA_eq (σ := σ) (vs := vs) pre h (by simpa [lefts] using hl)]
theorem Mix.len {σ : L2.St} : ∀ {as : List Arg} {us all : List V}, Mix σ as us all → all.length = as.length
  | _, _, _, .nil => rfl
  | _, _, _, .val h => by simp [h.len]
  | _, _, _, .nm _ h => by simp [h.len]
/-- own cells may be told their places -/
theorem S.pins {K : PySem.W.Frag} {Kp H : Hp} {ρ : Cells} : ∀ {as : List Arg} {ds : List D} {all : List V}, argD as ρ = some ds → S K Kp H (cellsA ρ as) (all.map some) → S K Kp H (List.zipWith Cell.pin ds all) (all.map some) := by
  intro as ds all h s
  obtain ⟨fp, s⟩ := s
  have hlen : ∀ as : List Arg, (cellsA ρ as).length = as.length := by
    intro as; induction as with
    | nil => rfl
    | cons a as ih => cases a <;> simp [cellsA, ih]
  have hl := s.len
  rw [hlen] at hl
  simp at hl
  have hd := (argD_lt h).2
  have key : ∀ (as : List Arg) (ds : List D), argD as ρ = some ds → ∀ (j : Nat) (d : D), ds[j]? = some d → ∃ c : Cell, (cellsA ρ as)[j]? = some c ∧ (c = Cell.own d ∨ ∃ v, c = Cell.pin d v) := by
    intro as
    induction as with
    | nil => intro ds h j d e; simp [argD] at h; subst h; simp at e
    | cons a as ih =>
      intro ds h j d e
      cases a with
      | inl d0 =>
        simp only [argD, Option.map_eq_some_iff] at h
        obtain ⟨ds', h, rfl⟩ := h
        cases j with
        | zero => simp at e; subst e; exact ⟨_, rfl, .inl rfl⟩
        | succ j => obtain ⟨c, e1, e2⟩ := ih ds' h j d (by simpa using e); exact ⟨c, by simpa [cellsA] using e1, e2⟩
      | inr i =>
        simp only [argD] at h
        split at h
        · rename_i d1 e0
          simp only [Option.map_eq_some_iff] at h
          obtain ⟨ds', h, rfl⟩ := h
          cases j with
          | zero => simp at e; subst e; exact ⟨.own d1, by simp [cellsA, e0], .inl rfl⟩
          | succ j => obtain ⟨c, e1, e2⟩ := ih ds' h j d (by simpa using e); exact ⟨c, by simpa [cellsA] using e1, e2⟩
        · rename_i d1 v1 e0
          simp only [Option.map_eq_some_iff] at h
          obtain ⟨ds', h, rfl⟩ := h
          cases j with
          | zero => simp at e; subst e; exact ⟨.pin d1 v1, by simp [cellsA, e0], .inr ⟨_, rfl⟩⟩
          | succ j => obtain ⟨c, e1, e2⟩ := ih ds' h j d (by simpa using e); exact ⟨c, by simpa [cellsA] using e1, e2⟩
        · cases h
  refine ⟨fp, by simp; omega, fun j c e => ?_, fun j e => s.out j ?_, s.nd, s.dj, s.kp, s.sub⟩
  · rw [List.getElem?_zipWith] at e
    cases e1 : ds[j]? with
    | none => rw [e1] at e; simp at e
    | some d =>
      cases e2 : all[j]? with
      | none => rw [e1, e2] at e; simp at e
      | some v =>
        rw [e1, e2] at e
        simp at e; subst e
        obtain ⟨c0, e3, e4⟩ := key as ds h j d e1
        obtain ⟨u, eu, q⟩ := s.cell j c0 e3
        refine ⟨u, eu, ?_⟩
        rw [List.getElem?_map, e2] at eu
        simp at eu; subst eu
        rcases e4 with rfl | ⟨v1, rfl⟩
        · obtain ⟨⟨w, ew, r⟩, m⟩ := q; cases ew; exact ⟨⟨rfl, r⟩, m⟩
        · obtain ⟨⟨ew, r⟩, m⟩ := q; cases ew; exact ⟨⟨rfl, r⟩, m⟩
  · have := List.getElem?_eq_none_iff.mp e
    simp at this
    exact List.getElem?_eq_none (by rw [hlen]; omega)
end DL

namespace DL
open PySem PySem.Spec PyProof.Rows L2
set_option linter.all false
set_option Elab.async false
set_option maxRecDepth 100000
set_option maxHeartbeats 1000000

/-! ## D14: calls of defs that change what they are handed -/
theorem putF_len : ∀ (as : List Arg) (fs : List (Option D)) (ρ : Cells), (putF as fs ρ).length = ρ.length
  | [], _, _ => by simp [putF]
  | .inl _ :: as, [], _ => by simp [putF]
  | .inr _ :: as, [], _ => by simp [putF]
  | .inl _ :: as, f :: fs, ρ => by simp [putF, putF_len as]
  | .inr i :: as, f :: fs, ρ => by simp [putF, putF_len as]
theorem putF_out : ∀ (as : List Arg) (fs : List (Option D)) (ρ : Cells) (j : Nat), j ∉ argN as → (putF as fs ρ)[j]? = ρ[j]?
  | [], _, _, _, _ => by simp [putF]
  | .inl _ :: as, [], _, _, _ => by simp [putF]
  | .inr _ :: as, [], _, _, _ => by simp [putF]
  | .inl _ :: as, f :: fs, ρ, j, h => by simp only [putF]; exact putF_out as fs ρ j h
  | .inr i :: as, f :: fs, ρ, j, h => by
    simp only [argN, List.mem_cons, not_or] at h
    simp only [putF]
    rw [putF_out as fs _ j h.2, List.getElem?_set_ne (Ne.symm h.1)]
theorem argN_at : ∀ {as : List Arg} {k i : Nat}, as[k]? = some (.inr i) → i ∈ argN as
  | [], _, _, h => by simp at h
  | .inl _ :: as, 0, _, h => by simp at h
  | .inl _ :: as, k + 1, _, h => by simp only [argN]; exact argN_at (by simpa using h)
  | .inr i0 :: as, 0, i, h => by simp at h; subst h; simp [argN]
  | .inr i0 :: as, k + 1, i, h => by simp only [argN, List.mem_cons]; exact .inr (argN_at (k := k) (by simpa using h))
theorem argN_mem : ∀ {as : List Arg} {i : Nat}, i ∈ argN as → ∃ k : Nat, as[k]? = some (.inr i)
  | [], _, h => by simp [argN] at h
  | .inl _ :: as, i, h => by obtain ⟨k, e⟩ := argN_mem (as := as) h; exact ⟨k + 1, by simpa using e⟩
  | .inr i0 :: as, i, h => by
    simp only [argN, List.mem_cons] at h
    rcases h with rfl | h
    · exact ⟨0, rfl⟩
    · obtain ⟨k, e⟩ := argN_mem (as := as) h; exact ⟨k + 1, by simpa using e⟩
theorem idxA_get (b : Nat) : ∀ {as : List Arg} {m k i : Nat}, as[k]? = some (.inr i) → (idxA b as m)[k]? = some i
  | [], _, _, _, h => by simp at h
  | .inl _ :: as, _, 0, _, h => by simp at h
  | .inl _ :: as, m, k + 1, i, h => by simp only [idxA]; simpa using idxA_get b (as := as) (m := m + 1) (k := k) (by simpa using h)
  | .inr i0 :: as, _, 0, i, h => by simp at h; subst h; simp [idxA]
  | .inr i0 :: as, m, k + 1, i, h => by simp only [idxA]; simpa using idxA_get b (as := as) (m := m) (k := k) (by simpa using h)
theorem putF_in : ∀ {as : List Arg} {fs : List (Option D)} {ρ : Cells} {k i : Nat} {f : Option D}, (argN as).Nodup → as[k]? = some (.inr i) → fs[k]? = some f → i < ρ.length → (putF as fs ρ)[i]? = some (newC ρ[i]? f)
  | [], _, _, _, _, _, _, h, _, _ => by simp at h
  | _ :: _, [], _, _, _, _, _, _, h, _ => by simp at h
  | .inl _ :: as, f0 :: fs, ρ, 0, i, f, nd, h, hf, hi => by simp at h
  | .inl _ :: as, f0 :: fs, ρ, k + 1, i, f, nd, h, hf, hi => by
    simp only [putF]
    exact putF_in (k := k) nd (by simpa using h) (by simpa using hf) hi
  | .inr i0 :: as, f0 :: fs, ρ, 0, i, f, nd, h, hf, hi => by
    simp at h hf; subst h; subst hf
    simp only [putF]
    rw [putF_out as fs _ _ (List.nodup_cons.mp (show (i0 :: argN as).Nodup from nd)).1, List.getElem?_set_self hi]
  | .inr i0 :: as, f0 :: fs, ρ, k + 1, i, f, nd, h, hf, hi => by
    have h' : as[k]? = some (.inr i) := by simpa using h
    have nd' := List.nodup_cons.mp (show (i0 :: argN as).Nodup from nd)
    have hne : i0 ≠ i := fun z => nd'.1 (z ▸ argN_at h')
    simp only [putF]
    rw [putF_in (k := k) nd'.2 h' (by simpa using hf) (by simpa using hi), List.getElem?_set_ne hne]
theorem Mix.at {σ : L2.St} : ∀ {as : List Arg} {us all : List V} {k i : Nat}, Mix σ as us all → as[k]? = some (.inr i) → ∃ v, all[k]? = some v ∧ σ[i]? = some (some v)
  | _, _, _, k, i, .nil, h => by simp at h
  | _, _, _, 0, i, .val m, h => by simp at h
  | _, _, _, k + 1, i, .val m, h => by
    obtain ⟨v, e1, e2⟩ := Mix.at (k := k) m (by simpa using h)
    exact ⟨v, by simpa using e1, e2⟩
  | _, _, _, 0, i, .nm e m, h => by simp at h; subst h; exact ⟨_, rfl, e⟩
  | _, _, _, k + 1, i, .nm e m, h => by
    obtain ⟨v, e1, e2⟩ := Mix.at (k := k) m (by simpa using h)
    exact ⟨v, by simpa using e1, e2⟩
def finC : Option D → V → Cell
  | some d, v => .pin d v
  | none, _ => .no
theorem fins_eq (fs : List (Option D)) (all : List V) : fins fs all = List.zipWith finC fs all := by
  unfold fins
  congr 1
  funext f v
  cases f <;> rfl
theorem fins_get {fs : List (Option D)} {all : List V} {k : Nat} {f : Option D} {v : V} (e : fs[k]? = some f) (ev : all[k]? = some v) : (fins fs all)[k]? = some (finC f v) := by
  rw [fins_eq, List.getElem?_zipWith, e, ev]
theorem fins_len {fs : List (Option D)} {all : List V} (h : fs.length = all.length) : (fins fs all).length = all.length := by simp [fins, h]
theorem fins_fits {fs : List (Option D)} {all : List V} {k : Nat} {c : Cell} (e : (fins fs all)[k]? = some c) (c' : Cell) : Cell.fits c c' := by
  rw [fins_eq, List.getElem?_zipWith] at e
  cases h1 : fs[k]? with
  | none => rw [h1] at e; simp at e
  | some f =>
    cases h2 : all[k]? with
    | none => rw [h1, h2] at e; simp at e
    | some v =>
      rw [h1, h2] at e; simp at e; subst e
      cases f with
      | none => exact .no _
      | some d => exact .pin _ _ _
section
variable {K : PySem.W.Frag} {W : WX} {Kp Kp' H H' : Hp} {ρ ρ' ts : Cells} {σ vs : L2.St}
theorem S.back {as : List Arg} {ds : List D} {us all : List V} (s : S K Kp H (ρ ++ (ts ++ (lefts as).map .own)) (σ ++ (vs ++ us.map some))) (ht : ts.length = vs.length) (hlen : (lefts as).length = us.length) (mx : Mix σ as us all) (hd : argD as ρ = some ds) (nd : (argN as).Nodup) :
    ∃ Kc, S K Kc H (List.zipWith Cell.pin ds all) (all.map some) ∧ ∀ (fs : List (Option D)) (ρx : Cells) (σx : L2.St) (H' : Hp), fs.length = as.length → (∀ c ∈ ρx, c = .no ∨ ∃ d, c = .own d) →
      S K Kc H' (fins fs all ++ ρx) (all.map some ++ σx) → S K Kp H' (putF as fs ρ ++ (ts ++ ρx)) (σ ++ (vs ++ σx)) := by
  have hl : ρ.length = σ.length := s.lenR ht (by simp [hlen])
  have hlt := (argD_lt hd).1
  have hal := mx.len
  have pinv : ∀ (j : Nat) (d : D) (v0 : V), ρ[j]? = some (Cell.pin d v0) → σ[j]? = some (some v0) := fun j d v0 e => by
    obtain ⟨fp, sf⟩ := s
    have hj := (List.getElem?_eq_some_iff.mp e).1
    obtain ⟨u, eu, ⟨h6, _⟩, _⟩ := sf.cell j _ (by rw [List.getElem?_append_left hj]; exact e)
    rw [List.getElem?_append_left (hl ▸ hj)] at eu
    rw [h6] at eu; exact eu
  have hlen2 := s.len
  simp [hl, ht, hlen] at hlen2
  let is := idxA (ρ.length + ts.length) as 0
  have isn : is.Nodup := idxA_nodup _ as 0 nd fun i hi => by have := hlt i hi; omega
  have isl : ∀ i ∈ is, i < (ρ ++ (ts ++ (lefts as).map Cell.own)).length := fun i hi => by
    rcases idxA_mem _ as 0 i hi with h | ⟨_, h⟩
    · have := hlt i h; simp; omega
    · simp; omega
  obtain ⟨Kc, s1, back⟩ := s.frame is isn isl
  have e1 : is.map (fun i => (ρ ++ (ts ++ (lefts as).map Cell.own)).getD i .no) = cellsA ρ as := cellsA_eq (fun _ => trivial) as [] hlt
  have e2 : is.map (fun i => (σ ++ (vs ++ us.map some)).getD i none) = all.map some := by
    have := valsA_eq (σ := σ) (vs := vs) [] mx hlen
    show (idxA (ρ.length + ts.length) as 0).map _ = _
    rw [hl, ht]
    exact this
  rw [e1, e2] at s1
  refine ⟨Kc, s1.pins hd, fun fs ρx σx H' hf hx s2 => ?_⟩
  have isL : is.length = as.length := idxA_len _ as 0
  have s3 := back (fins fs all) ρx σx H' (by rw [fins_len (by omega)]; omega) (fun k c i ec ei => fins_fits ec _) hx (by rw [e2]; exact s2)
  have hlx : ρx.length = σx.length := by have := s2.len; simp [fins_len (show fs.length = all.length by omega)] at this; exact this
  refine s3.remap (by simp [putF_len]; omega) (fun j => if j < ρ.length + ts.length then j else j + (lefts as).length) (fun j c e => ?_) fun a b c1 c2 h1 h2 n1 n2 e' => ?_
  · by_cases hj : j < ρ.length
    · rw [if_pos (by omega)]
      rw [List.getElem?_append_left (by rw [putF_len]; exact hj)] at e
      have ev : (σ ++ (vs ++ σx))[j]? = ((σ ++ (vs ++ us.map some)) ++ σx)[j]? := by
        rw [List.getElem?_append_left (by omega), List.getElem?_append_left (by simp; omega), List.getElem?_append_left (by omega)]
      by_cases hm : j ∈ argN as
      · obtain ⟨k, ek⟩ := argN_mem hm
        have hk := (List.getElem?_eq_some_iff.mp ek).1
        obtain ⟨v, ev1, ev2⟩ := mx.at ek
        have ef : fs[k]? = some fs[k] := List.getElem?_eq_getElem (by omega)
        rw [putF_in nd ek ef hj] at e
        cases e
        have es : (setMany (ρ ++ (ts ++ (lefts as).map Cell.own)) is (fins fs all) ++ ρx)[j]? = some (finC fs[k] v) := by
          rw [List.getElem?_append_left (by rw [setMany_len]; simp; omega)]
          rw [setMany_in is (fins fs all) _ k j isn (by rw [fins_len (by omega)]; omega) (idxA_get _ ek) (by simp; omega)]
          exact fins_get ef ev1
        cases hfk : fs[k] with
        | none => refine .inl ?_; unfold newC; split <;> simp_all
        | some d =>
          rw [hfk] at es
          cases hc : ρ[j]? with
          | none => exact .inl rfl
          | some c0 =>
            cases c0 with
            | own d0 => exact .inr ⟨_, es, .unpin _ _, ev⟩
            | pin d0 v0 =>
              have := pinv j d0 v0 hc
              rw [ev2] at this; cases this
              exact .inr ⟨_, es, .refl _, ev⟩
            | no => exact .inl rfl
            | ro _ _ => exact .inl rfl
            | lck _ _ => exact .inl rfl
      · rw [putF_out as fs ρ j hm] at e
        refine .inr ⟨c, ?_, .refl c, ev⟩
        rw [List.getElem?_append_left (by rw [setMany_len]; simp; omega), setMany_out is _ _ j fun h => ?_, List.getElem?_append_left hj]
        · exact e
        · rcases idxA_mem _ as 0 j h with h | ⟨h, _⟩
          · exact hm h
          · omega
    · rw [List.getElem?_append_right (by rw [putF_len]; omega), putF_len] at e
      by_cases hj2 : j < ρ.length + ts.length
      · rw [if_pos hj2]
        rw [List.getElem?_append_left (by omega)] at e
        refine .inr ⟨c, ?_, .refl c, ?_⟩
        · rw [List.getElem?_append_left (by rw [setMany_len]; simp; omega), setMany_out is _ _ j fun h => ?_, List.getElem?_append_right (by omega), List.getElem?_append_left (by omega)]
          · exact e
          · rcases idxA_mem _ as 0 j h with h | ⟨h, _⟩
            · have := hlt j h; omega
            · omega
        · rw [List.getElem?_append_right (by omega), List.getElem?_append_left (by omega), List.append_assoc, List.getElem?_append_right (by omega), List.append_assoc, List.getElem?_append_left (by omega)]
      · rw [if_neg hj2]
        rw [List.getElem?_append_right (by omega)] at e
        refine .inr ⟨c, ?_, .refl c, ?_⟩
        · rw [List.getElem?_append_right (by rw [setMany_len]; simp; omega), setMany_len]
          rw [← e]; congr 1; simp; omega
        · rw [List.getElem?_append_right (by omega), List.getElem?_append_right (by omega), List.getElem?_append_right (by simp; omega)]
          congr 1; simp; omega
  · by_cases h3 : a < ρ.length + ts.length <;> by_cases h4 : b < ρ.length + ts.length <;> simp [h3, h4] at e' <;> omega
end
def eCall (G : DCE) (n : Nat) (τs : ETn) : ETr := fun X ρ R => τs X ρ fun as ρ' => ∃ ds, argD as ρ' = some ds ∧ ds.length = n ∧ (argN as).Nodup ∧ G ds (fun d fs => R d true (putF as fs ρ')) (fun cls fs => X cls (putF as fs ρ'))
section
variable {X : Cx} {W : WX} {e : Expr} {es : List Expr} {τs : ETn} {pos p : Pos} {x : Str} {G : DCE} {n : Nat} {mx : DCX}
theorem e_call {k : Nat} {f : Addr} {fd : FuncData} {ps : List Str} (tk : Takes X W) (F : FnOk X.prog X.w X.K X.mg X.base (L2.CX X.prog X.w) k f fd ps (ESp X.K n G)) (hr : Room k X.A) (hg : Gl X x) (hm : X.mg x = some (.ref f)) (hk : PySem.W.keepIn X.K (.ref f) = true) (hb : Binds X.K fd ps [])
    (ha : DEN X W (e :: es) τs) (hdb : (x == ("__debug__" : Str)) = false := by decide) (he : starEach (e :: es) X.env = (false, eval e X.env) :: starEach es X.env := by rfl) (hpl : (backTo pos (starEach es X.env)).any (·.1) = false := by rfl) :
    DE X W (.Call (.Name x p) (e :: es) [] pos) (eCall G n τs) :=
  PE.weak (pe_callS F hr hg hm hk hb (fun σ => passAt tk σ) ha hdb he hpl) fun σ H Q q => by
    obtain ⟨Kp, ρ, ts, vs, X, R, hl, s, xo, h, q⟩ := q
    have ht := s.lenT hl
    refine ⟨Kp, ρ, ts, vs, X, _, hl, s, xo, h, fun as ρ2 us all H2 K2 hc sm2 s2 hlen mx => ?_⟩
    obtain ⟨ds, hd, hn, nd, hG⟩ := hc
    obtain ⟨Kc, s3, back⟩ := s2.back ht hlen mx hd nd
    have h1 := mx.len
    have h2 := (argD_lt hd).2
    refine ⟨Kc, ds, _, _, by omega, hn, s3, hG, fun d fs v H' hr hfs s4 => ?_, fun cls fs H' hx hfs s4 => ?_⟩
    · exact q _ true _ v H' K2 hr sm2 (back fs [.own d] [some v] H' (by omega) (fun c hc => .inr ⟨d, by simpa using hc⟩) s4)
    · have s5 := back fs [] [] H' (by omega) (fun c hc => (nomatch hc)) (by simpa using s4)
      exact xo cls _ H' K2 hx sm2 (by simpa using s5)
/-- a pure def called with arguments whose making changes things -/
def eCallP (m : DCX) (τs : ETa) : ETr := fun X ρ R => τs X ρ fun ds ρ' => m ds (fun d o => o = true ∧ R d true ρ') (fun cls => X cls ρ')
end
end DL

namespace DL
open PySem PySem.Spec PyProof.Rows L2
set_option linter.all false
set_option Elab.async false
set_option maxRecDepth 100000
set_option maxHeartbeats 1000000

/-! ## D15: statements -/
structure DEnds where
  nx : Cells → Prop
  rt : D → Bool → Cells → Prop
  bk : Cells → Prop := fun _ => False
  ct : Cells → Prop := fun _ => False
abbrev ESt := EX → DEnds → Cells → Prop
structure EndsOk (K : PySem.W.Frag) (Kp : Hp) (E : DEnds) (T : Ends) : Prop where
  nx : ∀ ρ' σ' H' Kp', E.nx ρ' → Same Kp Kp' → S K Kp' H' ρ' σ' → T.nx σ' H'
  rt : ∀ d o v ρ' σ' H' Kp', E.rt d o ρ' → Same Kp Kp' → S K Kp' H' (ρ' ++ [TC o d v]) (σ' ++ [some v]) → T.rt v H'
  bk : ∀ ρ' σ' H' Kp', E.bk ρ' → Same Kp Kp' → S K Kp' H' ρ' σ' → T.bk σ' H'
  ct : ∀ ρ' σ' H' Kp', E.ct ρ' → Same Kp Kp' → S K Kp' H' ρ' σ' → T.ct σ' H'
def XOk (K : PySem.W.Frag) (W : WX) (Kp : Hp) (X : EX) : Prop := ∀ cls ρ' σ' H' Kp', X cls ρ' → Same Kp Kp' → S K Kp' H' ρ' σ' → W (cv K cls) none σ' H'
theorem XOk.grow {K : PySem.W.Frag} {W : WX} {Kp Kp' : Hp} {X : EX} (h : XOk K W Kp X) (s : Same Kp Kp') : XOk K W Kp' X := fun cls ρ' σ' H' Kq hx s2 => h cls ρ' σ' H' Kq hx (s.trans s2)
theorem EndsOk.grow {K : PySem.W.Frag} {Kp Kp' : Hp} {E : DEnds} {T : Ends} (h : EndsOk K Kp E T) (s : Same Kp Kp') : EndsOk K Kp' E T :=
  ⟨fun ρ' σ' H' Kq a b => h.nx ρ' σ' H' Kq a (s.trans b), fun d o v ρ' σ' H' Kq a b => h.rt d o v ρ' σ' H' Kq a (s.trans b), fun ρ' σ' H' Kq a b => h.bk ρ' σ' H' Kq a (s.trans b), fun ρ' σ' H' Kq a b => h.ct ρ' σ' H' Kq a (s.trans b)⟩
def lowS (K : PySem.W.Frag) (W : WX) (τ : ESt) : TS := fun T σ H => ∃ Kp ρ X E, S K Kp H ρ σ ∧ XOk K W Kp X ∧ EndsOk K Kp E T ∧ τ X E ρ
def DS (X : Cx) (W : WX) (st : Stmt) (τ : ESt) : Prop := PS X st (lowS X.K W τ)
def DSs (X : Cx) (W : WX) (st : List Stmt) (τ : ESt) : Prop := PSs X st (lowS X.K W τ)
section
variable {K : PySem.W.Frag} {W : WX} {Kp Kp' H H' : Hp} {ρ ρ' : Cells} {σ : L2.St}
theorem lowE_of {τ : ETr} {X : EX} {R : EQ} {Q : VK} (s : S K Kp H ρ σ) (x : XOk K W Kp X) (h : τ X ρ R)
    (q : ∀ d o ρ' v H' Kp', R d o ρ' → Same Kp Kp' → S K Kp' H' (ρ' ++ [TC o d v]) (σ ++ [some v]) → Q v H') : lowE K W τ σ H Q :=
  ⟨Kp, ρ, [], [], X, R, s.len, by simpa using s, fun cls ρ' H' Kp' hx sm s' => x cls ρ' σ H' Kp' hx sm (by simpa using s'), h, fun d o ρ' v H' Kp' hr sm s' => q d o ρ' v H' Kp' hr sm (by simpa using s')⟩
theorem lowET_of {τ : ETt} {X : EX} {R : Bool → Cells → Prop} {Q : Bool → Hp → Prop} (s : S K Kp H ρ σ) (x : XOk K W Kp X) (h : τ X ρ R)
    (q : ∀ b ρ' H' Kp', R b ρ' → Same Kp Kp' → S K Kp' H' ρ' σ → Q b H') : lowET K W τ σ H Q :=
  ⟨Kp, ρ, [], [], X, R, s.len, by simpa using s, fun cls ρ' H' Kp' hx sm s' => x cls ρ' σ H' Kp' hx sm (by simpa using s'), h, fun b ρ' H' Kp' hr sm s' => q b ρ' H' Kp' hr sm (by simpa using s')⟩
theorem S.lenL {c : Cell} {u : Option V} (s : S K Kp H (ρ ++ [c]) (σ ++ [u])) : ρ.length = σ.length := by have := s.len; simpa using this
/-- the last one let go -/
theorem S.free {o : Bool} {d : D} {v : V} (s : S K Kp H (ρ ++ [TC o d v]) (σ ++ [some v])) : ∃ Kp' f, S K Kp' H ρ σ ∧ Same Kp Kp' ∧ Rep K H d v f ∧ Holds H Kp' f := by
  obtain ⟨Kp', f, a, b, c, d, _⟩ := s.release s.lenL
  exact ⟨Kp', f, a, b, c, d⟩
end

/-! ### blocks -/
def sNext : ESt := fun _ E ρ => E.nx ρ
def sSeq (t u : ESt) : ESt := fun X E ρ => t X { E with nx := fun ρ' => u X E ρ' } ρ
section
variable {X : Cx} {W : WX} {st : Stmt} {rest : List Stmt} {t u : ESt} {pos p2 : Pos} {e : Expr}
theorem ss_nil : DSs X W [] sNext := PSs.weak pss_nil fun T σ H q => by
  obtain ⟨Kp, ρ, X, E, s, x, eo, h⟩ := q
  exact eo.nx ρ σ H Kp h (Same.refl _) s
theorem ss_cons (h1 : DS X W st t) (h2 : DSs X W rest u) : DSs X W (st :: rest) (sSeq t u) := PSs.weak (pss_cons h1 h2) fun T σ H q => by
  obtain ⟨Kp, ρ, Y, E, s, x, eo, h⟩ := q
  exact ⟨Kp, ρ, Y, { E with nx := fun ρ' => u Y E ρ' }, s, x, ⟨fun ρ' σ' H' Kq a b c => ⟨Kq, ρ', Y, E, c, x.grow b, eo.grow b, a⟩, eo.rt, eo.bk, eo.ct⟩, h⟩
theorem ss_one (h1 : DS X W st t) : DSs X W [st] t := pss_one h1
def sBreak : ESt := fun _ E ρ => E.bk ρ
def sCont : ESt := fun _ E ρ => E.ct ρ
def sNever : ESt := fun _ _ _ => False
/-! ### values -/
variable {τ : ETr}
def sDrop (τ : ETr) : ESt := fun X E ρ => τ X ρ fun _ _ ρ1 => E.nx ρ1
theorem s_expr (he : DE X W e τ) (hs : swapsWith e none pos.line X.env = pure false := by rfl) : DS X W (.Expr e pos) (sDrop τ) := PS.weak (ps_expr he hs) fun T σ H q => by
  obtain ⟨Kp, ρ, Y, E, s, x, eo, h⟩ := q
  exact lowE_of s x h fun d o ρ' v H' Kp' hr sm s' => eo.nx ρ' σ H' Kp' hr sm (s'.dropEnd s'.lenL)
def sRet (τ : ETr) : ESt := fun X E ρ => τ X ρ fun d o ρ1 => E.rt d o ρ1
theorem s_ret (he : DE X W e τ) : DS X W (.Return (some e) pos) (sRet τ) := PS.weak (ps_ret he) fun T σ H q => by
  obtain ⟨Kp, ρ, Y, E, s, x, eo, h⟩ := q
  exact lowE_of s x h fun d o ρ' v H' Kp' hr sm s' => eo.rt d o v ρ' σ H' Kp' hr sm s'
def sRetN : ESt := fun _ E ρ => E.rt .non true ρ
/-- name = e -/
def bindC (i : Nat) (d : D) (o : Bool) (ρ : Cells) (N : Cells → Prop) : Prop := i < ρ.length ∧ if o = true then N (ρ.set i (.own d)) else ∀ v, N (ρ.set i (.ro d v))
theorem bindC_run {i : Nat} {d : D} {o : Bool} {ρ : Cells} {N : Cells → Prop} (h : bindC i d o ρ N) (v : V) : i < ρ.length ∧ N (ρ.set i (TC o d v)) := by
  obtain ⟨h1, h2⟩ := h
  refine ⟨h1, ?_⟩
  cases o with
  | true => exact h2
  | false => exact h2 v
def sSet (i : Nat) (τ : ETr) : ESt := fun X E ρ => τ X ρ fun d o ρ1 => bindC i d o ρ1 E.nx
theorem s_set {i : Nat} {x : Str} {p : Pos} (hN : X.N.Nodup) (he : DE X W e τ) (hi : X.N[i]? = some x := by rfl) (hx : Loc X.env.scope x := by first | exact .inl rfl | exact .inr rfl) (hs : swapsWith e (some (.Name x p)) pos.line X.env = pure false := by rfl)
    (hf : X.fn x = true ∨ X.env.scope.names.lookup x = some .local := by first | exact .inl rfl | exact .inr rfl | assumption) : DS X W (.Assign [.Name x p] e pos) (sSet i τ) := PS.weak (ps_set hN hi hx he hs hf) fun T σ H q => by
  obtain ⟨Kp, ρ, Y, E, s, x, eo, h⟩ := q
  refine lowE_of s x h fun d o ρ' v H' Kp' hr sm s' => ?_
  obtain ⟨hi, hr⟩ := bindC_run hr v
  exact eo.nx _ _ H' Kp' hr sm (s'.store s'.lenL hi)
/-! ### if, while -/
variable {tc : ETt} {c : Expr} {a b : List Stmt}
def sIf (c : ETt) (t u : ESt) : ESt := fun X E ρ => c X ρ fun k ρ1 => if k = true then t X E ρ1 else u X E ρ1
theorem s_if (hc : DET X W c tc) (ha : DSs X W a t) (hb : DSs X W b u) : DS X W (.If c a b pos) (sIf tc t u) := PS.weak (ps_if hc ha hb) fun T σ H q => by
  obtain ⟨Kp, ρ, Y, E, s, x, eo, h⟩ := q
  refine lowET_of s x h fun k ρ' H' Kp' hr sm s' => ?_
  cases k with
  | true => exact ⟨Kp', ρ', Y, E, s', x.grow sm, eo.grow sm, hr⟩
  | false => exact ⟨Kp', ρ', Y, E, s', x.grow sm, eo.grow sm, hr⟩
def sWhile (c : ETt) (t : ESt) : ESt := fun X E ρ => ∃ I : Nat → Cells → Prop, (∃ m, I m ρ) ∧ ∀ m ρ, I m ρ → c X ρ fun k ρ1 =>
  if k = true then t X { E with nx := fun ρ2 => ∃ m', m' < m ∧ I m' ρ2, ct := fun ρ2 => ∃ m', m' < m ∧ I m' ρ2, bk := E.nx } ρ1 else E.nx ρ1
theorem s_while (hp : PassesOwn (model X.prog X.w) X.A X.env X.xe) (hc : DET X W c tc) (hb : DSs X W a t) : DS X W (.While c a [] pos) (sWhile tc t) := PS.weak (ps_while hp hc hb) fun T σ H q => by
  obtain ⟨Kp, ρ, Y, E, s, x, eo, I, ⟨m0, h0⟩, h⟩ := q
  refine ⟨fun m σ' H' => ∃ Kp' ρ', S X.K Kp' H' ρ' σ' ∧ Same Kp Kp' ∧ I m ρ', ⟨m0, Kp, ρ, s, Same.refl _, h0⟩, fun m σ1 H1 ⟨K1, ρ1, s1, sm1, h1⟩ => ?_⟩
  refine lowET_of s1 (x.grow sm1) (h m ρ1 h1) fun k ρ2 H2 K2 hr sm s2 => ?_
  cases k with
  | true =>
    refine ⟨fun σ3 H3 => ∃ K3 ρ3, S X.K K3 H3 ρ3 σ3 ∧ Same Kp K3 ∧ ∃ m', m' < m ∧ I m' ρ3, fun σ3 H3 ⟨K3, ρ3, s3, sm3, m', hm, h3⟩ => ⟨m', hm, K3, ρ3, s3, sm3, h3⟩, ?_⟩
    have eo2 := eo.grow (sm1.trans sm)
    refine ⟨K2, ρ2, Y, _, s2, x.grow (sm1.trans sm), ?_, hr⟩
    exact ⟨fun ρ' σ' H' Kq a b c => ⟨Kq, ρ', c, (sm1.trans sm).trans b, a⟩, eo2.rt, eo2.nx, fun ρ' σ' H' Kq a b c => ⟨Kq, ρ', c, (sm1.trans sm).trans b, a⟩⟩
  | false => exact eo.nx ρ2 σ1 H2 K2 hr (sm1.trans sm) s2
end

/-! ### things that are kept from then on -/
abbrev ETk := EX → Cells → (D → Cells → Prop) → Prop
def lowK (K : PySem.W.Frag) (W : WX) (τ : ETk) : TE := fun σ H Q => ∃ Kp ρ X R, S K Kp H ρ σ ∧ XOk K W Kp X ∧ τ X ρ R ∧ ∀ d ρ' v g H' Kp', R d ρ' → Same Kp Kp' → S K Kp' H' ρ' σ → Rep K H' d v g → Holds H' Kp' g → Q v H'
def DA (X : Cx) (W : WX) (e : Expr) (τ : ETk) : Prop := PE X e (lowK X.K W τ)
section
variable {K : PySem.W.Frag} {W : WX} {Kp Kp' H H' : Hp} {ρ ρ' : Cells} {σ : L2.St}
/-- every tuple is kept -/
theorem S.tups (s : S K Kp H ρ σ) : ∃ Kp', S K Kp' H ρ σ ∧ Same Kp Kp' ∧ ∀ g : List Addr, (∀ a ∈ g, ∃ o, Kp a = some o) → Holds H Kp' g := by
  have s1 := s.push (Sm.refl s.tab) (Fresh.imm (d := .non) rfl (.non : Rep K H .non .non []))
  obtain ⟨Kp', f, s2, sm, _, hh⟩ := S.free (o := true) s1
  exact ⟨Kp', s2, sm, fun g hg => ⟨hh.sub, fun a m => let ⟨o, e⟩ := hg a m; ⟨o, sm a o e⟩, hh.tup⟩⟩
/-- an own cell, from now on kept -/
theorem S.keepC {d : D} {i : Nat} (s : S K Kp H ρ σ) (e : ρ[i]? = some (.own d)) : ∃ Kp' v f, σ[i]? = some (some v) ∧ S K Kp' H (ρ.set i (.ro d v)) σ ∧ Same Kp Kp' ∧ Rep K H d v f ∧ Holds H Kp' f := by
  have hl := s.len
  have hi := (List.getElem?_eq_some_iff.mp e).1
  obtain ⟨v, ev, s1⟩ := S.take (ts := []) (vs := []) (c := .own d) (by simpa using s) hl e (.inl rfl)
  obtain ⟨Kp', f, s2, sm, r, hh⟩ := S.free (o := true) (d := d) (v := v) (ρ := ρ.set i .no) (σ := σ) (by simpa [TC] using s1)
  refine ⟨Kp', v, f, ev, ?_, sm, r, hh⟩
  have s3 := (s2.pushRo r hh.at_)
  have s4 := S.store (o := false) (d := d) (v := v) (i := i) (by simpa [TC] using s3) s2.len (by simpa using hi)
  have e1 : σ.set i (some v) = σ := by
    apply List.ext_getElem?
    intro j
    by_cases hj : i = j
    · subst hj; rw [List.getElem?_set_self (hl ▸ hi), ev]
    · rw [List.getElem?_set_ne hj]
  simpa [e1, TC] using s4
theorem S.roAt {d : D} {v : V} {i : Nat} (s : S K Kp H ρ σ) (e : ρ[i]? = some (.ro d v)) : σ[i]? = some (some v) ∧ ∃ g, Rep K H d v g ∧ ∀ a ∈ g, ∃ o, Kp a = some o := by
  obtain ⟨fp, sf⟩ := s
  obtain ⟨u, eu, _, rfl, g, r, hg⟩ := sf.cell i _ e
  exact ⟨eu, g, r, hg⟩
end
section
variable {X : Cx} {W : WX} {pos p2 : Pos} {e f : Expr} {τ : ETr} {τk : ETk}
def kOwn (τ : ETr) : ETk := fun X ρ R => τ X ρ fun d _ ρ1 => R d ρ1
theorem k_own (h : DE X W e τ) : DA X W e (kOwn τ) := PE.weak h fun σ H Q q => by
  obtain ⟨Kp, ρ, Y, R, s, x, h, q⟩ := q
  refine lowE_of s x h fun d o ρ' v H' Kp' hr sm s' => ?_
  obtain ⟨K2, f, s2, sm2, r, hh⟩ := s'.free
  exact q d ρ' v f H' K2 hr (sm.trans sm2) s2 r hh
def kName (i : Nat) : ETk := fun _ ρ R => match ρ[i]? with
  | some (.ro d _) => R d ρ
  | some (.own d) => if d.imm = true then R d ρ else ∀ v, R d (ρ.set i (.ro d v))
  | some (.pin d _) => if d.imm = true then R d ρ else False
  | _ => False
theorem k_name {i : Nat} (h : PE X e (tVar i)) : DA X W e (kName i) := PE.weak h fun σ H Q q => by
  obtain ⟨Kp, ρ, Y, R, s, x, h, q⟩ := q
  unfold kName at h
  have immK : ∀ {c : Cell} {d : D}, ρ[i]? = some c → c.data = some d → d.imm = true → R d ρ → tVar i σ H Q := fun {c d} e hd hi hr => by
    obtain ⟨v, f, ev, r⟩ := s.rep e hd
    have := r.imm hi
    subst this
    obtain ⟨K2, s2, sm, hh⟩ := s.tups
    exact ⟨v, ev, q d ρ v [] H K2 hr sm s2 r (hh [] fun a m => absurd m List.not_mem_nil)⟩
  split at h
  · rename_i d v e
    obtain ⟨ev, g, r, hg⟩ := s.roAt e
    obtain ⟨K2, s2, sm, hh⟩ := s.tups
    exact ⟨v, ev, q d ρ v g H K2 h sm s2 r (hh g hg)⟩
  · rename_i d e
    split at h
    · rename_i hi
      exact immK e rfl hi h
    · obtain ⟨K2, v, f, ev, s2, sm, r, hh⟩ := s.keepC e
      exact ⟨v, ev, q d _ v f H K2 (h v) sm s2 r hh⟩
  · rename_i d v e
    split at h
    · rename_i hi
      exact immK e rfl hi h
    · exact h.elim
  · exact h.elim
/-- x[i], x kept -/
def ixK : D → D → Option D
  | .lst xs, .int i => atI xs i
  | .tup xs, .int i => atI xs i
  | .ord ns, .int i => (atI ns i).map .int
  | .dK kvs, k => match k.key with | some kk => alook kvs kk | none => none
  | .dT kvs, .tup ks => match toKeys ks with | some kk => alook kvs kk | none => none
  | _, _ => none
end
end DL

namespace DL
open PySem PySem.Spec PyProof.Rows L2
set_option linter.all false
set_option Elab.async false
set_option maxRecDepth 100000
set_option maxHeartbeats 1000000

/-! ## D16: kept things, targets, for -/
section
variable {K : PySem.W.Frag} {W : WX} {Kp Kp' H H' : Hp} {ρ ρ' : Cells} {σ : L2.St}
theorem S.sub' (s : S K Kp H ρ σ) : Same Kp H := by obtain ⟨fp, s⟩ := s; exact s.sub.sub
theorem sp_of {X : EX} (s : S K Kp H ρ σ) (x : XOk K W Kp X) : SP K W H ⟨ρ.map Cell.data, fun cls => X cls ρ⟩ σ :=
  S.sp (ts := []) (vs := []) (by simpa using s) s.len fun cls H' sm hx => x cls ρ σ H' Kp hx (Same.refl _) (s.step sm)
end
def rIxK (K : PySem.W.Frag) : R2 := fun x y H Q => ∃ da db fa fb d, Rep K H da x fa ∧ Rep K H db y fb ∧ ixK da db = some d ∧ ∀ v f, Rep K H d v f → (∀ a ∈ f, a ∈ fa) → Q v H
section
variable {X : Cx} {W : WX} {pos p2 : Pos} {e f b : Expr} {τ τx : ETr} {τk : ETk}
def kIx (τk : ETk) (τ : PTr) : ETk := fun X ρ R => τk X ρ fun da ρ1 => τ ⟨ρ1.map Cell.data, fun cls => X cls ρ1⟩ fun db _ => ∃ d, ixK da db = some d ∧ R d ρ1
def kGet2 (τk : ETk) (τ τx : ETr) : ETk := fun X ρ R => τk X ρ fun d ρ1 => d.isDict = true ∧ τ X ρ1 fun k ok ρ2 => ok = true ∧ τx X ρ2 fun x ox ρ3 => lookM d k fun o => match o with
  | some r => R r ρ3
  | none => R x ρ3
def sSetK (i : Nat) (τ : ETk) : ESt := fun X E ρ => τ X ρ fun d ρ1 => bindC i d d.imm ρ1 E.nx
end
end DL

namespace DL
open PySem PySem.Spec PyProof.Rows L2
set_option linter.all false
set_option Elab.async false
set_option maxRecDepth 100000
set_option maxHeartbeats 1000000

/-! ## D17: binding, loops -/
section
variable {K : PySem.W.Frag} {W : WX} {Kp Kp' H H' : Hp} {ρ ρ' : Cells} {σ : L2.St}
/-- a kept thing is given to a name -/
theorem S.bind {d : D} {v : V} {g : List Addr} {i : Nat} {N : Cells → Prop} (s : S K Kp H ρ σ) (r : Rep K H d v g) (hg : ∀ a ∈ g, ∃ o, Kp a = some o) (h : bindC i d d.imm ρ N) : ∃ ρ', N ρ' ∧ S K Kp H ρ' (σ.set i (some v)) := by
  obtain ⟨hi, hn⟩ := bindC_run h v
  refine ⟨_, hn, ?_⟩
  cases e : d.imm with
  | true => exact S.store (o := true) (by simpa [TC] using s.push (Sm.refl s.tab) (Fresh.imm e r)) s.len hi
  | false => exact S.store (o := false) (by simpa [TC] using s.pushRo r hg) s.len hi
end
abbrev ETg := D → Cells → (Cells → Prop) → Prop
abbrev ETgs := List D → Cells → (Cells → Prop) → Prop
def lowG (K : PySem.W.Frag) (γ : ETg) : TG := fun v σ H Q => ∃ Kp ρ d g R, S K Kp H ρ σ ∧ Rep K H d v g ∧ (∀ a ∈ g, ∃ o, Kp a = some o) ∧ γ d ρ R ∧ ∀ ρ' σ', R ρ' → S K Kp H ρ' σ' → Q σ' H
def lowGs (K : PySem.W.Frag) (γ : ETgs) : TGs := fun v σ H Q => ∃ Kp ρ d g R, S K Kp H ρ σ ∧ Reps K H d v g ∧ (∀ a ∈ g, ∃ o, Kp a = some o) ∧ γ d ρ R ∧ ∀ ρ' σ', R ρ' → S K Kp H ρ' σ' → Q σ' H
def DG (X : Cx) (tg : Expr) (γ : ETg) : Prop := PG X tg (lowG X.K γ)
def DGs (X : Cx) (tg : List Expr) (γ : ETgs) : Prop := PGs X tg (lowGs X.K γ)
def gnName (i : Nat) : ETg := fun d ρ R => bindC i d d.imm ρ R
def gnNil : ETgs := fun ds ρ R => ds = [] ∧ R ρ
def gnCons (γ : ETg) (δ : ETgs) : ETgs := fun ds ρ R => ∃ d r, ds = d :: r ∧ γ d ρ fun ρ2 => δ r ρ2 R
def gnTup (n : Nat) (δ : ETgs) : ETg := fun d ρ R => ∃ ds, d = .tup ds ∧ ds.length = n ∧ δ ds ρ R
section
variable {X : Cx} {W : WX} {pos p2 : Pos}
theorem g_name {i : Nat} {x : Str} (hN : X.N.Nodup) (hi : X.N[i]? = some x := by rfl) (hx : Loc X.env.scope x := by first | exact .inl rfl | exact .inr rfl) (hf : X.fn x = true ∨ X.env.scope.names.lookup x = some .local := by first | exact .inl rfl | exact .inr rfl | assumption) : DG X (.Name x pos) (gnName i) :=
  PG.weak (pg_name hN hi hx hf) fun v σ H Q q => by
    obtain ⟨Kp, ρ, d, g, R, s, r, hg, h, q⟩ := q
    obtain ⟨ρ', hr, s'⟩ := s.bind r hg h
    exact q ρ' _ hr s'
theorem g_nil : DGs X [] gnNil := PGs.weak pgs_nil fun v σ H Q q => by
  obtain ⟨Kp, ρ, d, g, R, s, r, hg, ⟨rfl, h⟩, q⟩ := q
  exact ⟨r.nil_inv, q ρ _ h s⟩
theorem g_cons {e : Expr} {es : List Expr} {γ : ETg} {δ : ETgs} (h1 : DG X e γ) (h2 : DGs X es δ)
    (hs : (assignEach (e :: es) X.env).map (·.2) = assign e X.env :: (assignEach es X.env).map (·.2) := by rfl) : DGs X (e :: es) (gnCons γ δ) := PGs.weak (pgs_cons h1 h2 hs) fun v σ H Q q => by
  obtain ⟨Kp, ρ, d, g, R, s, r, hg, ⟨d1, dr, rfl, h⟩, q⟩ := q
  cases r with
  | cons r1 r2 =>
    exact ⟨_, _, rfl, Kp, ρ, d1, _, _, s, r1, fun a m => hg a (List.mem_append_left _ m), h, fun ρ' σ' h' s' => ⟨Kp, ρ', dr, _, R, s', r2, fun a m => hg a (List.mem_append_right _ m), h', q⟩⟩
theorem g_tup {es : List Expr} {k : Nat} {δ : ETgs} {n : Nat} (hc : X.calm = true) (h : DGs X es δ)
    (hn : (assignEach es X.env).length = n := by rfl) (hst : (assignEach es X.env).findIdx? (·.1) = none := by rfl) : DG X (.Tuple es k pos) (gnTup n δ) := PG.weak (pg_tup hc h hn hst) fun v σ H Q q => by
  obtain ⟨Kp, ρ, d, g, R, s, r, hg, ⟨ds, rfl, hl, h⟩, q⟩ := q
  obtain ⟨a, vs, rfl, ha, r1⟩ := r.tup_inv
  exact ⟨a, vs, rfl, .of ha, r1.len ▸ hl, Kp, ρ, ds, g, R, s, r1, hg, h, q⟩
/-- target = e, what e tells being kept -/
def sAsg (τ : ETk) (γ : ETg) : ESt := fun X E ρ => τ X ρ fun d ρ1 => γ d ρ1 E.nx
theorem s_asg {tg e : Expr} {τ : ETk} {γ : ETg} (he : DA X W e τ) (hg : DG X tg γ) (hs : swapsWithSole [tg] e pos.line X.env = pure false := by rfl) (hw : swappedStores [tg] e X.env = pure none := by rfl)
    (h1 : (assignEach [tg] X.env).map (·.2) = [assign tg X.env] := by rfl) : DS X W (.Assign [tg] e pos) (sAsg τ γ) := PS.weak (ps_asg he hg hs hw h1) fun T σ H q => by
  obtain ⟨Kp, ρ, Y, E, s, x, eo, h⟩ := q
  exact ⟨Kp, ρ, Y, _, s, x, h, fun d ρ1 v g H1 K1 hr sm s1 r hh => ⟨K1, ρ1, d, g, _, s1, r, hh.at_, hr, fun ρ' σ' h' s' => eo.nx ρ' σ' H1 K1 h' sm s'⟩⟩
/-- name = e, kept -/
def sKeep (i : Nat) (τ : ETk) : ESt := fun X E ρ => τ X ρ fun d ρ1 => bindC i d d.imm ρ1 E.nx
/-- return e, what it tells being kept -/
def sRetK (τ : ETk) : ESt := fun X E ρ => τ X ρ fun d ρ1 => E.rt d d.imm ρ1
/-! ### what is walked -/
abbrev ETi := EX → Cells → (List D → Cells → Prop) → Prop
def lowI (K : PySem.W.Frag) (W : WX) (it : ETi) : TI := fun σ H R => ∃ Kp ρ X Rd, S K Kp H ρ σ ∧ XOk K W Kp X ∧ it X ρ Rd ∧ ∀ xs J ρ' H' Kp', Rd xs ρ' → Same Kp Kp' → S K Kp' H' ρ' σ → xs.length ≤ sizeLine → Good K J xs Kp' → R J H'
def DI (X : Cx) (W : WX) (tg e : Expr) (it : ETi) : Prop := PI X tg e (lowI X.K W it)
def iSeqK (τ : ETk) : ETi := fun X ρ R => τ X ρ fun d ρ1 => ∃ xs, items d = some xs ∧ (match d with | .str z => z.length ≤ sizeLine | _ => True) ∧ R xs ρ1
theorem i_seqK {tg e : Expr} {τ : ETk} (ha : DA X W e τ) : DI X W tg e (iSeqK τ) := by
  refine PI.weak (pi_of ha pyi_seq) fun σ H R q => ?_
  obtain ⟨Kp, ρ, Y, Rd, s, x, h, q⟩ := q
  refine ⟨Kp, ρ, Y, _, s, x, h, fun d ρ1 v g H1 K1 hr sm s1 r hh => ?_⟩
  obtain ⟨xs, e1, hs, hr⟩ := hr
  refine ⟨d, g, xs, r, e1, fun J hz hg => q xs J ρ1 H1 K1 hr sm s1 ?_ (hg K1 hh)⟩
  rcases hz with hz | ⟨z, rfl⟩
  · exact hz
  · cases r
    simp only [items, Option.some.injEq] at e1
    subst e1
    simpa [Str.length] using hs
theorem lowEA_of {K : PySem.W.Frag} {W : WX} {Kp H : Hp} {ρ : Cells} {σ : L2.St} {τ : ETa} {X : EX} {R : List D → Cells → Prop} {Q : List V → Hp → Prop} (s : S K Kp H ρ σ) (x : XOk K W Kp X) (h : τ X ρ R)
    (q : ∀ ds ρ' us H' Kp', R ds ρ' → Same Kp Kp' → S K Kp' H' (ρ' ++ ds.map .own) (σ ++ us.map some) → ds.length = us.length → Q us H') : lowEA K W τ σ H Q :=
  ⟨Kp, ρ, [], [], X, R, s.len, by simpa using s, fun cls ρ' H' Kp' hx sm s' => x cls ρ' σ H' Kp' hx sm (by simpa using s'), h, fun ds ρ' us H' Kp' hr sm s' hl => q ds ρ' us H' Kp' hr sm (by simpa using s') hl⟩
def iRg1 (τs : ETa) : ETi := fun X ρ R => τs X ρ fun ds ρ1 => ∃ n : Int, ds = [.int n] ∧ -4611686018427387904 ≤ n ∧ n ≤ 16777216 ∧ R ((List.range n.toNat).map fun i => .int (i : Nat)) ρ1
def iRg2 (τs : ETa) : ETi := fun X ρ R => τs X ρ fun ds ρ1 => ∃ l n : Int, ds = [.int l, .int n] ∧ -4611686018427387904 ≤ n ∧ 0 ≤ l ∧ l ≤ 16777216 ∧ n ≤ 16777216 ∧ R (rgL l n) ρ1
theorem i_rg1 {tg a : Expr} {τs : ETa} {p pos : Pos} (hg : Gl X "range") (hm : X.mg "range" = none) (ha : DEA X W [a] τs) (hs : starEach [a] X.env = [(false, eval a X.env)] := by rfl) : DI X W tg (.Call (.Name "range" p) [a] [] pos) (iRg1 τs) := by
  refine PI.weak (pi_range1 hg hm ha hs) fun σ H R q => ?_
  obtain ⟨Kp, ρ, Y, Rd, s, x, h, q⟩ := q
  refine lowEA_of s x h fun ds ρ1 us H1 K1 hd sm s1 hl => ?_
  have hl1 : ρ1.length = σ.length := by have := s1.len; simp at this; omega
  obtain ⟨f, rr⟩ := s1.reps hl1
  obtain ⟨n, rfl, h1, h2, hr⟩ := hd
  obtain ⟨v, rfl, r1⟩ := rr.one_inv
  rw [r1.int_inv.1]
  exact ⟨n, rfl, by omega, by omega, q _ _ _ _ _ hr sm (s1.dropEnd hl1) (by simp [sizeLine_eq]; omega) good_range0⟩
theorem i_rg2 {tg a b : Expr} {τs : ETa} {p pos : Pos} (hg : Gl X "range") (hm : X.mg "range" = none) (ha : DEA X W [a, b] τs) (hs : starEach [a, b] X.env = [(false, eval a X.env), (false, eval b X.env)] := by rfl) (hs2 : starEach [b] X.env = [(false, eval b X.env)] := by rfl) : DI X W tg (.Call (.Name "range" p) [a, b] [] pos) (iRg2 τs) := by
  refine PI.weak (pi_range2 hg hm ha hs hs2) fun σ H R q => ?_
  obtain ⟨Kp, ρ, Y, Rd, s, x, h, q⟩ := q
  refine lowEA_of s x h fun ds ρ1 us H1 K1 hd sm s1 hl => ?_
  have hl1 : ρ1.length = σ.length := by have := s1.len; simp at this; omega
  obtain ⟨f, rr⟩ := s1.reps hl1
  obtain ⟨l, n, rfl, h0, h1, h2, h3, hr⟩ := hd
  obtain ⟨v, w, _, _, rfl, r1, r2⟩ := rr.two_inv
  rw [r1.int_inv.1, r2.int_inv.1]
  exact ⟨l, n, rfl, ⟨by omega, by omega, by omega, by omega⟩, q _ _ _ _ _ hr sm (s1.dropEnd hl1) (by simp [sizeLine_eq, rgL]; omega) good_range⟩

/-! ### for -/
def sFor (it : ETi) (γ : ETg) (t : ESt) : ESt := fun X E ρ => it X ρ fun xs ρ1 => ∃ I : Nat → Cells → Prop, I 0 ρ1 ∧
  (∀ (i : Nat) (x : D) ρ2, xs[i]? = some x → I i ρ2 → γ x ρ2 fun ρ3 => t X { E with nx := I (i + 1), ct := I (i + 1), bk := E.nx } ρ3) ∧ ∀ ρ2, I xs.length ρ2 → E.nx ρ2
theorem s_for {tg iter : Expr} {body : List Stmt} {it : ETi} {γ : ETg} {t : ESt} (hc : X.calm = true) (hp : PassesOwn (model X.prog X.w) X.A X.env X.xe) (hi : DI X W tg iter it) (hg : DG X tg γ) (hb : DSs X W body t)
    (hs : ∀ x, foldedSetIterable iter X.env x = pure x := by intro _; rfl) : DS X W (.For tg iter body [] pos) (sFor it γ t) := PS.weak (ps_for hp hc hi hg hb hs) fun T σ H q => by
  obtain ⟨Kp, ρ, Y, E, s, x, eo, h⟩ := q
  refine ⟨Kp, ρ, Y, _, s, x, h, fun xs J ρ1 H1 K1 hr sm s1 hz good => ?_⟩
  obtain ⟨I, h0, step, fin⟩ := hr
  refine ⟨fun i m σ' H' => m = xs.length - i ∧ i ≤ xs.length ∧ ∃ K2 ρ2, S X.K K2 H' ρ2 σ' ∧ Same K1 K2 ∧ I i ρ2, ⟨xs.length, by simp, Nat.zero_le _, K1, ρ1, s1, Same.refl _, h0⟩, fun i m σ2 H2 hW => ?_⟩
  obtain ⟨rfl, hi, K2, ρ2, s2, sm2, hI⟩ := hW
  have sH : Same K1 H2 := sm2.trans s2.sub'
  by_cases hlt : i < xs.length
  · refine .inr ⟨good.go i H2 sH hlt, fun σ' H' => ∃ K3 ρ3, S X.K K3 H' ρ3 σ' ∧ Same K1 K3 ∧ I (i + 1) ρ3, fun σ' H' ⟨K3, ρ3, a, b, c⟩ => ⟨_, by omega, rfl, hlt, K3, ρ3, a, b, c⟩, fun v H3 hy => ?_⟩
    obtain ⟨d, f, e1, smH, r, hf⟩ := good.yld i H2 v H3 sH hlt hy
    refine ⟨K2, ρ2, d, f, _, s2.same smH, r, fun a m => ?_, step i d ρ2 e1 hI, fun ρ4 σ4 h4 s4 => ?_⟩
    · obtain ⟨o, e⟩ := hf a m
      exact ⟨o, sm2 a o e⟩
    · have eo2 := eo.grow (sm.trans sm2)
      refine ⟨K2, ρ4, Y, _, s4, x.grow (sm.trans sm2), ?_, h4⟩
      exact ⟨fun ρ' σ' H' Kq a b c => ⟨Kq, ρ', c, sm2.trans b, a⟩, eo2.rt, eo2.nx, fun ρ' σ' H' Kq a b c => ⟨Kq, ρ', c, sm2.trans b, a⟩⟩
  · have hi' : i = xs.length := by omega
    subst hi'
    exact .inl ⟨good.stop _ H2 sH (Nat.le_refl _), eo.nx ρ2 σ2 H2 K2 (fin ρ2 hI) (sm.trans sm2) s2⟩
end
end DL

namespace DL
open PySem PySem.Spec PyProof.Rows L2
set_option linter.all false
set_option Elab.async false
set_option maxRecDepth 100000
set_option maxHeartbeats 1000000

/-! ## D18: stores -/
section
variable {K : PySem.W.Frag} {W : WX} {Kp Kp' H H' : Hp} {ρ ρ' ts : Cells} {σ vs : L2.St}
end
section
variable {κ : Type} [DecidableEq κ]
theorem alook_at {kvs : List (κ × D)} {k : κ} {d : D} (h : alook kvs k = some d) : ∃ i : Nat, kvs[i]? = some (k, d) := by
  induction kvs with
  | nil => cases h
  | cons p kvs ih =>
    rw [alook_cons] at h
    split at h
    · rename_i e; cases h; exact ⟨0, by rw [← e]; rfl⟩
    · obtain ⟨i, e⟩ := ih h; exact ⟨i + 1, by simpa using e⟩
theorem aput_at {α : Type} {kvs : List (κ × α)} {k : κ} {d x : α} {i : Nat} (nd : (kvs.map (·.1)).Nodup) (h : kvs[i]? = some (k, d)) : aput kvs k x = kvs.set i (k, x) := by
  have ha : (kvs.any fun kv => decide (kv.1 = k)) = true := by
    rw [List.any_eq_true]; exact ⟨_, List.mem_of_getElem? h, by simp⟩
  unfold aput
  rw [if_pos ha]
  apply List.ext_getElem?
  intro j
  rw [List.getElem?_map, List.getElem?_set]
  have hi := (List.getElem?_eq_some_iff.mp h).1
  by_cases hj : i = j
  · subst hj
    rw [h]; simp [hi]
  · rw [if_neg hj]
    cases e : kvs[j]? with
    | none => rfl
    | some p =>
      have hj' := (List.getElem?_eq_some_iff.mp e).1
      have : p.1 ≠ k := fun z => hj ((List.getElem_inj (h₀ := by simpa using hi) (h₁ := by simpa using hj') nd).mp (by
        have e1 := (List.getElem?_eq_some_iff.mp h).2
        have e2 := (List.getElem?_eq_some_iff.mp e).2
        simp only [List.getElem_map, e1, e2, z]))
      simp [this]
theorem aput_new {α : Type} {kvs : List (κ × α)} {k : κ} {x : α} (h : alook kvs k = none) : aput kvs k x = kvs ++ [(k, x)] := by
  have ha : ¬ (kvs.any fun kv => decide (kv.1 = k)) = true := fun z => by
    unfold alook at h
    simp only [Option.map_eq_none_iff, List.find?_eq_none] at h
    rw [List.any_eq_true] at z
    obtain ⟨p, m, q⟩ := z
    exact h p m q
  unfold aput
  rw [if_neg ha]
theorem putK_at {kvs : List (κ × V)} {k : κ} {d x : V} {i : Nat} (nd : (kvs.map (·.1)).Nodup) (h : kvs[i]? = some (k, d)) : putK kvs k x = kvs.set i (k, x) := aput_at nd h
theorem putK_new {kvs : List (κ × V)} {k : κ} {x : V} (h : k ∉ kvs.map (·.1)) : putK kvs k x = kvs ++ [(k, x)] := by
  unfold putK
  rw [if_neg]
  intro z
  rw [List.any_eq_true] at z
  obtain ⟨p, m, q⟩ := z
  exact h (List.mem_map.mpr ⟨p, m, by simpa using q⟩)
theorem alook_none {α : Type} {kvs : List (κ × α)} {k : κ} (h : alook kvs k = none) : k ∉ kvs.map (·.1) := fun m => by
  unfold alook at h
  simp only [Option.map_eq_none_iff, List.find?_eq_none] at h
  obtain ⟨p, m, q⟩ := List.mem_map.mp m
  exact h p m (by simpa using q)
/-- a dict's things behind a store -/
theorem Reps.dput {K : PySem.W.Frag} {H : Hp} {kvs : List (κ × D)} {es : List (κ × V)} {k : κ} {dx : D} {w : V} {f fx : List Addr} (hk : kvs.map (·.1) = es.map (·.1)) (nd : (kvs.map (·.1)).Nodup) (r : Reps K H (kvs.map (·.2)) (es.map (·.2)) f) (rx : Rep K H dx w fx) (n2 : (f ++ fx).Nodup) :
    ∃ g, (aput kvs k dx).map (·.1) = (putK es k w).map (·.1) ∧ ((aput kvs k dx).map (·.1)).Nodup ∧ Reps K H ((aput kvs k dx).map (·.2)) ((putK es k w).map (·.2)) g ∧ g.Nodup ∧ ∀ a ∈ g, a ∈ f ++ fx := by
  cases h : alook kvs k with
  | none =>
    have hn := alook_none h
    rw [aput_new h, putK_new (hk ▸ hn)]
    refine ⟨f ++ fx, by simp [hk], ?_, ?_, n2, fun a m => m⟩
    · rw [List.map_append, List.nodup_append]
      exact ⟨nd, by simp, fun a m b m' e => by simp at m'; subst m'; subst e; exact hn m⟩
    · simpa using r.app (.one rx)
  | some d0 =>
    obtain ⟨i, hi⟩ := alook_at h
    have hie := (List.getElem?_eq_some_iff.mp hi).1
    have hl : kvs.length = es.length := keys_len (K := K) (H := H) hk
    have e1 : (es.map (·.1))[i]? = some k := by rw [← hk, List.getElem?_map, hi]; rfl
    obtain ⟨v0, e2⟩ : ∃ v0, es[i]? = some (k, v0) := by
      rw [List.getElem?_map] at e1
      cases q : es[i]? with
      | none => rw [q] at e1; cases e1
      | some p => rw [q] at e1; simp at e1; subst e1; exact ⟨p.2, rfl⟩
    rw [aput_at nd hi, putK_at (hk ▸ nd) e2]
    have hkk : (kvs.set i (k, dx)).map (·.1) = kvs.map (·.1) := by
      rw [List.map_set]
      apply List.ext_getElem?
      intro j
      rw [List.getElem?_set]
      by_cases hj : i = j
      · subst hj; rw [List.getElem?_map, hi]; simp [hie]
      · simp [hj]
    have hee : (es.set i (k, w)).map (·.1) = es.map (·.1) := by
      rw [List.map_set]
      apply List.ext_getElem?
      intro j
      rw [List.getElem?_set]
      by_cases hj : i = j
      · subst hj; rw [List.getElem?_map, e2]; simp [hl ▸ hie]
      · simp [hj]
    -- the things left of i, the new one, the things right of it
    have key : ∀ {ds : List D} {us : List V} {f : List Addr} (i : Nat), Reps K H ds us f → (f ++ fx).Nodup → i < ds.length → ∃ g, Reps K H (ds.set i dx) (us.set i w) g ∧ g.Nodup ∧ ∀ a ∈ g, a ∈ f ++ fx := by
      intro ds
      induction ds with
      | nil => intro us f i r n2 hi; simp at hi
      | cons d ds ih =>
        intro us f i r n2 hi
        cases r with
        | cons r1 r2 =>
          rename_i v1 f1 vs1 f2
          cases i with
          | zero =>
            refine ⟨fx ++ f2, by simpa using Reps.cons rx r2, ?_, fun a m => by simp at m ⊢; rcases m with m | m; exact .inr (.inr m); exact .inr (.inl m)⟩
            simp only [List.nodup_append, List.mem_append] at n2 ⊢
            exact ⟨n2.2.1, n2.1.2.1, fun a m b m' e => n2.2.2 b (.inr m') a m e.symm⟩
          | succ i =>
            simp only [List.nodup_append, List.mem_append] at n2
            obtain ⟨g, a, b, c⟩ := ih i r2 (by simp only [List.nodup_append]; exact ⟨n2.1.2.1, n2.2.1, fun a m b m' e => n2.2.2 a (.inr m) b m' e⟩) (by simpa using hi)
            refine ⟨f1 ++ g, by simpa using Reps.cons r1 a, ?_, fun x m => ?_⟩
            · simp only [List.nodup_append]
              refine ⟨n2.1.1, b, fun x m y m' e => ?_⟩
              rcases List.mem_append.mp (c y m') with m2 | m2
              · exact n2.1.2.2 x m y m2 e
              · exact n2.2.2 x (.inl m) y m2 e
            · rcases List.mem_append.mp m with m | m
              · simp [m]
              · have := c x m; simp at this ⊢; rcases this with q | q; exact .inr (.inl q); exact .inr (.inr q)
    obtain ⟨g, a, b, c⟩ := key i r n2 (by simpa using hie)
    exact ⟨g, by rw [hkk, hee, hk], by rw [hkk]; exact nd, by rw [List.map_set, List.map_set]; exact a, b, c⟩
end
def putM (d k x : D) (R : D → Prop) : Prop := match d, k with
  | .dK kvs, k => ∃ kk, k.key = some kk ∧ kvs.length < sizeLine ∧ R (.dK (aput kvs kk x))
  | .dT kvs, .tup ks => ∃ kk, toKeys ks = some kk ∧ kvs.length < sizeLine ∧ R (.dT (aput kvs kk x))
  | _, _ => False
theorem putM_inv {d k x : D} {R : D → Prop} (h : putM d k x R) : (∃ kvs kk, d = .dK kvs ∧ k.key = some kk ∧ kvs.length < sizeLine ∧ R (.dK (aput kvs kk x))) ∨
    ∃ kvs ks kk, d = .dT kvs ∧ k = .tup ks ∧ toKeys ks = some kk ∧ kvs.length < sizeLine ∧ R (.dT (aput kvs kk x)) := by
  unfold putM at h
  split at h
  · obtain ⟨kk, a, b, c⟩ := h; exact .inl ⟨_, kk, rfl, a, b, c⟩
  · obtain ⟨kk, a, b, c⟩ := h; exact .inr ⟨_, _, kk, rfl, rfl, a, b, c⟩
  · exact h.elim
section
variable {X : Cx} {W : WX} {pos p2 : Pos} {e f b o : Expr} {τ τx : ETr} {τk : ETk}
/-- x[k] = e, x a dict -/
def sPut (i : Nat) (τk τv : ETr) : ESt := fun X E ρ => τv X ρ fun dv ov ρ1 => ov = true ∧ (∃ c d0, ρ1[i]? = some c ∧ c.data = some d0) ∧ τk X ρ1 fun dk ok ρ2 => ok = true ∧ ∃ c d, ρ2[i]? = some c ∧ c.mutD = some d ∧ putM d dk dv fun d' => E.nx (ρ2.set i (reC c d'))
theorem s_put {i : Nat} {k v : Expr} {τk τv : ETr} (hu : X.A.units + 65 < cLine) (ho : PE X o (tVar i)) (hk : DE X W k τk) (hv : DE X W v τv) (hs : swapsWith v (some (.Subscript o k p2)) pos.line X.env = pure false := by rfl) :
    DS X W (.Assign [.Subscript o k p2] v pos) (sPut i τk τv) := PS.weak (ps_dput (by omega) ho hk hv hs) fun T σ H q => by
  obtain ⟨Kp, ρ, Y, E, s, x, eo, h⟩ := q
  refine lowE_of s x h fun dv ov ρ1 vv H1 K1 hr sm s1 => ?_
  obtain ⟨rfl, ⟨c0, d0, ec0, ed0⟩, hr⟩ := hr
  have hl1 := s1.lenL
  have hi0 := (List.getElem?_eq_some_iff.mp ec0).1
  obtain ⟨v0, f0, e0, r0⟩ := s1.rep (i := i) (by rw [List.getElem?_append_left hi0]; exact ec0) ed0
  rw [List.getElem?_append_left (hl1 ▸ hi0)] at e0
  refine ⟨v0, e0, ?_⟩
  refine ⟨K1, ρ1, [TC true dv vv], [some vv], Y, _, hl1, s1, ?_, hr, fun dk ok ρ2 vk H2 K2 hx sm2 s2 => ?_⟩
  · intro cls ρ' H' Kq hx smq sq
    have := sq.len
    exact x cls ρ' σ H' Kq hx (sm.trans smq) (sq.dropEnd (by simpa using this))
  obtain ⟨rfl, c, d, ec, hm, hput⟩ := hx
  have hl2 : ρ2.length = σ.length := by have := s2.len; simpa using this
  have s2' : S X.K K2 H2 ((ρ2 ++ [TC true dv vv]) ++ [TC true dk vk]) ((σ ++ [some vv]) ++ [some vk]) := by simpa using s2
  obtain ⟨w, gk, ew, rk⟩ := s2'.last (by simp [hl2]) (TC_data true dk vk)
  cases ew
  have s3 := s2'.dropEnd (by simp [hl2])
  obtain ⟨hc, hd⟩ := mutD_inv hm
  obtain ⟨v1, f, fx, ev, r1, r2, nd, mu, fin⟩ := S.change1 (ts := []) (vs := []) (c := c) (d := d) (dx := dv) (w := vv) (i := i) (by simpa [TC] using s3) hl2 ec hc
  rw [e0] at ev; cases ev
  rcases putM_inv hput with ⟨kvs, kk, rfl, hkk, hz, hn⟩ | ⟨kvs, ks, kk, rfl, rfl, hkk, hz, hn⟩
  · skip
    obtain ⟨a, es, f', rfl, hrd, hke, r3, rfl⟩ := r1.dK_inv
    have ha : H2 a = some (.dK es) := by
      rcases hrd with e | ⟨o, e⟩
      · exact e
      · have := mu a (by simp); rw [e] at this; exact this.elim
    have nd' := List.nodup_cons.mp (show (a :: (f' ++ fx)).Nodup from nd)
    obtain ⟨g, k1, k2, k3, k4, k5⟩ := r3.dput (k := kk) hke r1.dK_nd r2 nd'.2
    refine ⟨a, upd H2 a (.dK (putK es kk vv)), rfl, .inl ⟨es, kk, ha, key_inv rk hkk, by rw [← keys_len (K := X.K) (H := H2) hke]; exact hz, rfl⟩, ?_⟩
    have ng : a ∉ g := fun m => nd'.1 (k5 a m)
    have kp : Kept H2 (upd H2 a (.dK (putK es kk vv))) g := ⟨fun b m o e => by rw [upd_ne (show b ≠ a from fun z => ng (z ▸ m))]; exact e, fun b ts e => by rw [upd_ne (show b ≠ a from fun z => by rw [z, ha] at e; exact tno ts e)]; exact e⟩
    have c1 : MutAll (upd H2 a (.dK (putK es kk vv))) (a :: g) := fun b m => by
      rcases List.mem_cons.mp m with rfl | m
      · rw [upd_same]; trivial
      · exact MutAll.keep (fp := g) (fun b m => mu b (by have := k5 b m; simp at this ⊢; exact .inr this)) kp b m
    have c2 : ∀ b ∈ a :: g, b ∈ (a :: f') ++ fx ∨ H2 b = none := fun b m => by
      rcases List.mem_cons.mp m with rfl | m
      · exact .inl (by simp)
      · exact .inl (by have := k5 b m; simp at this ⊢; exact .inr this)
    have s4 := fin (upd H2 a (.dK (putK es kk vv))) (.dK (aput kvs kk dv)) (a :: g) (fun b o e n => by rw [upd_ne (show b ≠ a from fun z => n (by rw [z]; simp))]; exact e)
      (.dK (.inl upd_same) k1 k2 (k3.keep kp)) (List.nodup_cons.mpr ⟨ng, k4⟩) c1 c2
    exact eo.nx _ σ _ K2 hn (sm.trans sm2) (by simpa using s4)
  · skip
    obtain ⟨a, es, f', rfl, hrd, hke, r3, rfl⟩ := r1.dT_inv
    have ha : H2 a = some (.dT es) := by
      rcases hrd with e | ⟨o, e⟩
      · exact e
      · have := mu a (by simp); rw [e] at this; exact this.elim
    have nd' := List.nodup_cons.mp (show (a :: (f' ++ fx)).Nodup from nd)
    obtain ⟨g, k1, k2, k3, k4, k5⟩ := r3.dput (k := kk) hke r1.dT_nd r2 nd'.2
    obtain ⟨bk, us, rfl, hb, rks⟩ := rk.tup_inv
    have hus := keys_inv rks hkk
    subst hus
    refine ⟨a, upd H2 a (.dT (putK es kk vv)), rfl, .inr ⟨es, kk, bk, ha, rfl, hb, by rw [← keys_len (K := X.K) (H := H2) hke]; exact hz, rfl⟩, ?_⟩
    have ng : a ∉ g := fun m => nd'.1 (k5 a m)
    have kp : Kept H2 (upd H2 a (.dT (putK es kk vv))) g := ⟨fun b m o e => by rw [upd_ne (show b ≠ a from fun z => ng (z ▸ m))]; exact e, fun b ts e => by rw [upd_ne (show b ≠ a from fun z => by rw [z, ha] at e; exact tno ts e)]; exact e⟩
    have c1 : MutAll (upd H2 a (.dT (putK es kk vv))) (a :: g) := fun b m => by
      rcases List.mem_cons.mp m with rfl | m
      · rw [upd_same]; trivial
      · exact MutAll.keep (fp := g) (fun b m => mu b (by have := k5 b m; simp at this ⊢; exact .inr this)) kp b m
    have c2 : ∀ b ∈ a :: g, b ∈ (a :: f') ++ fx ∨ H2 b = none := fun b m => by
      rcases List.mem_cons.mp m with rfl | m
      · exact .inl (by simp)
      · exact .inl (by have := k5 b m; simp at this ⊢; exact .inr this)
    have s4 := fin (upd H2 a (.dT (putK es kk vv))) (.dT (aput kvs kk dv)) (a :: g) (fun b o e n => by rw [upd_ne (show b ≠ a from fun z => n (by rw [z]; simp))]; exact e)
      (.dT (.inl upd_same) k1 k2 (k3.keep kp)) (List.nodup_cons.mpr ⟨ng, k4⟩) c1 c2
    exact eo.nx _ σ _ K2 hn (sm.trans sm2) (by simpa using s4)
end
end DL

namespace DL
open PySem PySem.Spec PyProof.Rows L2
set_option linter.all false
set_option Elab.async false
set_option maxRecDepth 100000
set_option maxHeartbeats 1000000

/-! ## D19: list stores, things within things, raise, defs -/
section
variable {K : PySem.W.Frag} {W : WX} {Kp Kp' H H' : Hp} {ρ ρ' ts : Cells} {σ vs : L2.St}
end
section
variable {X : Cx} {W : WX} {pos p2 : Pos} {e f b o : Expr} {τ τx : ETr} {τk : ETk}
/-- x[k] = e, x a list of plain things -/
def sSetL (i : Nat) (τk τv : ETr) : ESt := fun X E ρ => τv X ρ fun dv ov ρ1 => ov = true ∧ dv.imm = true ∧ (∃ c d0, ρ1[i]? = some c ∧ c.data = some d0) ∧ τk X ρ1 fun dk ok ρ2 => ok = true ∧ ∃ c xs j k, ρ2[i]? = some c ∧ c.mutD = some (.lst xs) ∧ immL xs = true ∧ dk = .int j ∧ ixN xs.length j = some k ∧ E.nx (ρ2.set i (reC c (.lst (xs.set k dv))))
theorem s_setL {i : Nat} {k v : Expr} {τk τv : ETr} (ho : PE X o (tVar i)) (hk : DE X W k τk) (hv : DE X W v τv)
    (ha : ∀ v, assign (.Subscript o k p2) X.env v = (do
      let ov ← holding [v] (eval o X.env)
      let iv ← holding [v, ov] (eval k X.env)
      standAt p2
      holding [v, ov, iv] (setItem ov iv v)
      release [v, ov, iv] []) := by intro _; rfl)
    (hs : swapsWithSole [.Subscript o k p2] v pos.line X.env = pure false := by rfl) (hw : swappedStores [.Subscript o k p2] v X.env = pure none := by rfl)
    (h1 : (assignEach [.Subscript o k p2] X.env).map (·.2) = [assign (.Subscript o k p2) X.env] := by rfl) :
    DS X W (.Assign [.Subscript o k p2] v pos) (sSetL i τk τv) := PS.weak (ps_asg hv (pg_sub ho hk set_list ha) hs hw h1) fun T σ H q => by
  obtain ⟨Kp, ρ, Y, E, s, x, eo, h⟩ := q
  refine lowE_of s x h fun dv ov ρ1 vv H1 K1 hr sm s1 => ?_
  obtain ⟨rfl, hvi, ⟨c0, d0, ec0, ed0⟩, hr⟩ := hr
  have hl1 := s1.lenL
  have hi0 := (List.getElem?_eq_some_iff.mp ec0).1
  obtain ⟨v0, f0, e0, r0⟩ := s1.rep (i := i) (by rw [List.getElem?_append_left hi0]; exact ec0) ed0
  rw [List.getElem?_append_left (hl1 ▸ hi0)] at e0
  refine ⟨v0, e0, ?_⟩
  refine ⟨K1, ρ1, [TC true dv vv], [some vv], Y, _, hl1, s1, ?_, hr, fun dk ok ρ2 vk H2 K2 hx sm2 s2 => ?_⟩
  · intro cls ρ' H' Kq hx smq sq
    have := sq.len
    exact x cls ρ' σ H' Kq hx (sm.trans smq) (sq.dropEnd (by simpa using this))
  obtain ⟨rfl, c, xs, j, k, ec, hm, hi, rfl, hj, hn⟩ := hx
  have hl2 : ρ2.length = σ.length := by have := s2.len; simpa using this
  have s2' : S X.K K2 H2 ((ρ2 ++ [TC true dv vv]) ++ [TC true (.int j) vk]) ((σ ++ [some vv]) ++ [some vk]) := by simpa using s2
  obtain ⟨w, gk, ew, rk⟩ := s2'.last (by simp [hl2]) (TC_data true (.int j) vk)
  cases ew
  have s3 := s2'.dropEnd (by simp [hl2])
  obtain ⟨w, gv, ew, rv⟩ := s3.last hl2 (TC_data true dv vv)
  cases ew
  have s4 := s3.dropEnd hl2
  obtain ⟨p, us, ev, hp, r, fin⟩ := S.chI (ts := []) (vs := []) (by simpa using s4) hl2 ec hm hi
  rw [e0] at ev; cases ev
  have hv0 := rv.imm hvi
  subst hv0
  refine ⟨p, us, j, k, rfl, rk.int_inv.1, hp, by rw [← r.len]; exact hj, ?_⟩
  have s5 := fin (xs.set k dv) (us.set k vv) (r.set rv)
  exact eo.nx _ σ _ K2 hn (sm.trans sm2) (by simpa using s5)

/-! ### a thing within a named thing -/
/-- a thing within a list or dict put anew -/
def upIx (d k x : D) : Option D := match d, k with
  | .lst xs, .int i => match ixN xs.length i with | some j => some (.lst (xs.set j x)) | none => none
  | .dK kvs, k => match k.key with | some kk => some (.dK (aput kvs kk x)) | none => none
  | .dT kvs, .tup ks => match toKeys ks with | some kk => some (.dT (aput kvs kk x)) | none => none
  | _, _ => none
end
end DL

namespace DL
open PySem PySem.Spec PyProof.Rows L2
set_option linter.all false
set_option Elab.async false
set_option maxRecDepth 100000
set_option maxHeartbeats 1000000

/-! ## D20: a list within a named thing grows; raise; defs -/
def Cell.inD : Cell → Option D
  | .own d => some d
  | .pin d _ => some d
  | .lck d _ => some d
  | _ => none
def inC (c : Cell) (d : D) : Cell := match c with
  | .own _ => .own d
  | .pin _ v => .pin d v
  | .lck _ v => .lck d v
  | _ => .no
section
variable {K : PySem.W.Frag} {W : WX} {Kp Kp' H H' : Hp} {ρ ρ' ts : Cells} {σ vs : L2.St}
end
section
variable {X : Cx} {W : WX} {pos p2 apos cpos : Pos} {e f b o k : Expr} {τ τx : ETr} {τk : ETk}
/-- x[k].append(e), k and e plain -/
def eAppIx (i : Nat) (τk τ : PTr) : ETr := fun X ρ R => ∃ c d, ρ[i]? = some c ∧ c.inD = some d ∧ (∀ ts, d ≠ .tup ts) ∧ τk ⟨ρ.map Cell.data, fun cls => X cls ρ⟩ fun dk _ => ∃ xs, ixK d dk = some (.lst xs) ∧ xs.length < sizeLine ∧
  τ ⟨ρ.map Cell.data, fun cls => X cls ρ⟩ fun dx ox => ox = true ∧ ∀ d', upIx d dk (.lst (xs ++ [dx])) = some d' → R .non true (ρ.set i (inC c d'))
end
end DL

namespace DL
open PySem PySem.Spec PyProof.Rows L2
set_option linter.all false
set_option Elab.async false
set_option maxRecDepth 100000
set_option maxHeartbeats 1000000

/-! ## D21: raise, defs -/
section
variable {X : Cx} {W : WX} {pos : Pos} {e : Expr}
def sRaise (cls : Value) : ESt := fun X _ ρ => X cls ρ
end
def entR (d : D) (v : V) : Cell := if d.imm = true then .own d else .ro d v
def entP (d : D) (v : V) : Cell := if d.imm = true then .own d else .pin d v
def entC (n : Nat) (f : D → V → Cell) (ds : List D) (vs : List V) : Cells := List.zipWith f ds vs ++ List.replicate (n - vs.length) .no
abbrev W0 (E : XK) : WX := fun cls d _ H => E cls d H
section
variable {P : Program} {w : World} {K : PySem.W.Frag} {mg : Str → Option Value} {base : Heap}
theorem Reps.at' {H : Hp} {ds : List D} {vs : List V} {fs : List Addr} (r : Reps K H ds vs fs) {i : Nat} {v : V} (e : vs[i]? = some v) : ∃ d f, ds[i]? = some d ∧ Rep K H d v f := by
  have hi := (List.getElem?_eq_some_iff.mp e).1
  have h2 : i < ds.length := by have := r.len; omega
  obtain ⟨v', f, e1, r1, _⟩ := r.get (List.getElem?_eq_getElem h2)
  rw [e] at e1; cases e1
  exact ⟨_, f, List.getElem?_eq_getElem h2, r1⟩
theorem S.enter {H : Hp} {N : List Str} {ds : List D} {vs : List V} {fs : List Addr} (t : TabsK K H) (r : Reps K H ds vs fs) : S K (nt H) H (entC N.length entR ds vs) (L2.start N vs) := by
  have hl := r.len
  refine ⟨fun _ => [], by simp [entC, L2.start, hl], fun i c e => ?_, fun _ _ => rfl, fun _ => List.nodup_nil, fun i j a m => (nomatch m), fun i a m => (nomatch m), ⟨nt_same H, nt_no H, t⟩⟩
  by_cases hi : i < vs.length
  · obtain ⟨d, f, e1, r1⟩ := r.at' (List.getElem?_eq_getElem hi)
    have e2 : (List.zipWith entR ds vs)[i]? = some (entR d vs[i]) := by
      rw [List.getElem?_zipWith, e1, List.getElem?_eq_getElem hi]
    unfold entC at e
    rw [List.getElem?_append_left (by simp [hl]; omega), e2] at e
    cases e
    refine ⟨some vs[i], by unfold L2.start; rw [List.getElem?_append_left (by simpa using hi)]; simp [hi], ?_⟩
    unfold entR
    split
    · rename_i hm
      have := r1.imm hm
      subst this
      exact ⟨⟨_, rfl, r1⟩, fun a m => (nomatch m)⟩
    · exact ⟨rfl, rfl, f, r1, fun a m => let ⟨u, e, _, n⟩ := r1.there a m; ⟨u, nt_at e n.1⟩⟩
  · unfold entC at e
    rw [List.getElem?_append_right (by simp [hl]; omega)] at e
    have : c = .no := List.eq_of_mem_replicate (List.mem_of_getElem? e)
    subst this
    have hi2 : i < N.length ∨ ¬ i < N.length := Decidable.em _
    have hz : (List.zipWith entR ds vs).length = vs.length := by simp [hl]
    have h3 := (List.getElem?_eq_some_iff.mp e).1
    rw [hz, List.length_replicate] at h3
    refine ⟨none, ?_, rfl⟩
    unfold L2.start
    rw [List.getElem?_append_right (by simp; omega), List.getElem?_replicate, if_pos (by simpa using h3)]
theorem fn_body {x qual : Str} {st : Stmt} {f : Addr} {fd : FuncData} {N ps : List Str} {k : Nat} {sp : Sp} (F : Fun K x qual st f fd) (Sc : FnScope N ps (defScope st)) (ln : ∀ vs H Q E, sp vs H Q E → vs.length = ps.length)
    (b : ∀ (cdv : Value) (A : Around) (outer : List Env) (s : Shared) (H : Hp) (vs : List V) (Q : VK) (E : XK), cdv = fd.code → Room k (A.deeper (envOfC qual (defScope st) s.heap.objs.size f cdv)) → sp vs H Q E →
      ∃ t, PSs (cxOf (L2.CX P w) P w K mg base N qual (defScope st) f cdv A outer s H E) (defBody st) t ∧ t { nx := fun _ H' => Q .non H', rt := Q } (L2.start N vs) H) : FnOk P w K mg base (L2.CX P w) (k + 1) f fd ps sp := by
  obtain ⟨_, _, _, _, _, _, cv, _, _, he, hl, hc⟩ := F.ex
  subst he
  exact fn_of hl hc Sc ln fun A outer s H vs Q E r q => b cv A outer s H vs Q E rfl r q
theorem fn_pure {x qual : Str} {st : Stmt} {f : Addr} {fd : FuncData} {N ps : List Str} {k : Nat} {m : DCX} {τ : ESt} (F : Fun K x qual st f fd) (Sc : FnScope N ps (defScope st)) (hlen : ∀ ds R Ex, m ds R Ex → ds.length = ps.length)
    (body : ∀ (cdv : Value) (A : Around) (outer : List Env) (s : Shared) (H : Hp) (E : XK), cdv = fd.code → Room k (A.deeper (envOfC qual (defScope st) s.heap.objs.size f cdv)) →
      DSs (cxOf (L2.CX P w) P w K mg base N qual (defScope st) f cdv A outer s H E) (W0 E) (defBody st) τ)
    (spec : ∀ ds R Ex vs, m ds R Ex → vs.length = ds.length → τ (fun cls _ => Ex cls) { nx := fun _ => R .non true, rt := fun d o _ => R d o } (entC N.length entR ds vs)) :
    FnOk P w K mg base (L2.CX P w) (k + 1) f fd ps (PSp K m) := by
  refine fn_body F Sc (fun vs H Q E h => ?_) (fun cdv A outer s H vs Q E hcd hr h => ?_)
  · obtain ⟨_, ds, fs, R, Ex, r, hm, _⟩ := h
    rw [← r.len]; exact hlen _ _ _ hm
  · obtain ⟨tb, ds, fs, R, Ex, r, hm, qr, qx⟩ := h
    have up : ∀ {Kp' H' : Hp} {ρ' : Cells} {σ' : L2.St}, Same (nt H) Kp' → S K Kp' H' ρ' σ' → Sm K H H' := fun sm s' => ⟨fun a o e n => s'.sub' a o (sm a o (nt_at e n)), s'.tab⟩
    refine ⟨_, body cdv A outer s H E hcd hr, nt H, _, _, _, S.enter tb r, ?_, ?_, spec ds R Ex vs hm r.len.symm⟩
    · exact fun cls ρ' σ' H' Kp' hx sm s' => qx cls H' hx (up sm s')
    · refine ⟨fun ρ' σ' H' Kp' hn sm s' => qr _ _ _ _ hn (up sm s') ⟨[], Fresh.imm rfl .non⟩, fun d o v ρ' σ' H' Kp' hn sm s' => qr _ _ _ _ hn (up sm s') ?_, fun _ _ _ _ z => z.elim, fun _ _ _ _ z => z.elim⟩
      obtain ⟨fp, sf⟩ := s'
      have hl : ρ'.length = σ'.length := by have := sf.len; simpa using this
      obtain ⟨u, eu, q⟩ := sf.cell ρ'.length (TC o d v) (by simp)
      have : u = some v := by rw [hl] at eu; simpa using eu.symm
      subst this
      cases o with
      | true =>
        obtain ⟨⟨v', ev, r1⟩, mu⟩ := q
        cases ev
        refine ⟨_, r1, sf.nd _, fun a ha => ?_, mu⟩
        have := sf.kp _ a ha
        cases z : nt H a with
        | none => rfl
        | some o => rw [sm a o z] at this; cases this
      | false =>
        obtain ⟨_, ev, g, r1, _⟩ := q
        exact ⟨g, r1⟩

/-! ### defs that change what they are handed -/
def finOk : List (Option D) → List V → Cells → Prop
  | [], _, _ => True
  | none :: fs, _ :: vs, _ :: ρ => finOk fs vs ρ
  | some d :: fs, v :: vs, c :: ρ => c = .pin d v ∧ finOk fs vs ρ
  | _, _, _ => False
theorem finOk_at : ∀ {fs : List (Option D)} {vs : List V} {ρ : Cells} {i : Nat} {d : D}, finOk fs vs ρ → fs[i]? = some (some d) → ∃ v, vs[i]? = some v ∧ ρ[i]? = some (.pin d v)
  | [], _, _, _, _, _, h => by simp at h
  | none :: fs, v :: vs, c :: ρ, 0, d, h, e => by simp at e
  | none :: fs, v :: vs, c :: ρ, i + 1, d, h, e => by
    obtain ⟨w, a, b⟩ := finOk_at (i := i) (show finOk fs vs ρ from h) (by simpa using e)
    exact ⟨w, by simpa using a, by simpa using b⟩
  | some d0 :: fs, v :: vs, c :: ρ, 0, d, h, e => by
    simp at e; subst e
    exact ⟨v, rfl, by rw [h.1]; rfl⟩
  | some d0 :: fs, v :: vs, c :: ρ, i + 1, d, h, e => by
    obtain ⟨w, a, b⟩ := finOk_at (i := i) (show finOk fs vs ρ from h.2) (by simpa using e)
    exact ⟨w, by simpa using a, by simpa using b⟩
  | none :: _, [], _, _, _, h, _ => h.elim
  | some _ :: _, [], _, _, _, h, _ => h.elim
  | none :: _, _ :: _, [], _, _, h, _ => h.elim
  | some _ :: _, _ :: _, [], _, _, h, _ => h.elim
/-- fewer kept things, where no cell leans on them -/
theorem S.less {Kp Kp' H : Hp} {ρ : Cells} {σ : L2.St} (s : S K Kp' H ρ σ) (sm : Same Kp Kp') (h : ∀ c ∈ ρ, c = .no ∨ (∃ d, c = .own d) ∨ ∃ d v, c = .pin d v) : S K Kp H ρ σ := by
  obtain ⟨fp, sf⟩ := s
  refine ⟨fp, sf.len, fun i c e => ?_, sf.out, sf.nd, sf.dj, fun i a m => ?_, ⟨fun a o e => sf.sub a o (sm a o e), fun a ps e => sf.sub.nt a ps (sm a _ e), sf.sub.tab⟩⟩
  · obtain ⟨u, eu, q⟩ := sf.cell i c e
    refine ⟨u, eu, ?_⟩
    rcases h c (List.mem_of_getElem? e) with rfl | ⟨d, rfl⟩ | ⟨d, v, rfl⟩
    · exact q
    · exact q
    · exact q
  · cases z : Kp a with
    | none => rfl
    | some o => have := sf.kp i a m; rw [sm a o z] at this; cases this
theorem S.leave {Kp Kp' H : Hp} {ρ : Cells} {σ : L2.St} {fs : List (Option D)} {vs : List V} {ρx : Cells} {σx : L2.St} (s : S K Kp' H (ρ ++ ρx) (σ ++ σx)) (hl : ρ.length = σ.length) (sm : Same Kp Kp') (hf : finOk fs vs ρ) (hfl : fs.length = vs.length) (hx : ∀ c ∈ ρx, ∃ d, c = .own d) :
    S K Kp H (fins fs vs ++ ρx) (vs.map some ++ σx) := by
  have hlx : ρx.length = σx.length := by have := s.len; simp [hl] at this; exact this
  refine S.less (Kp' := Kp') ?_ sm fun c hc => ?_
  · refine s.remap (by simp [fins_len hfl, hlx]) (fun j => if j < vs.length then j else ρ.length + (j - vs.length)) (fun j c e => ?_) fun a b c1 c2 h1 h2 n1 n2 e' => ?_
    · by_cases hj : j < vs.length
      · rw [List.getElem?_append_left (by rw [fins_len hfl]; exact hj)] at e
        rw [if_pos hj]
        have ef : fs[j]? = some fs[j] := List.getElem?_eq_getElem (by omega)
        rw [fins_get ef (List.getElem?_eq_getElem hj)] at e
        cases e
        cases hfj : fs[j] with
        | none => exact .inl rfl
        | some d =>
          rw [hfj] at ef
          obtain ⟨v, ev, ec⟩ := finOk_at hf ef
          rw [List.getElem?_eq_getElem hj] at ev; cases ev
          have hjl := (List.getElem?_eq_some_iff.mp ec).1
          refine .inr ⟨_, by rw [List.getElem?_append_left hjl]; exact ec, .refl _, ?_⟩
          obtain ⟨fp, sf⟩ := s
          obtain ⟨u, eu, ⟨h6, _⟩, _⟩ := sf.cell j _ (by rw [List.getElem?_append_left hjl]; exact ec)
          rw [eu, h6, List.getElem?_append_left (by simpa using hj)]
          simp [hj]
      · rw [List.getElem?_append_right (by rw [fins_len hfl]; omega), fins_len hfl] at e
        rw [if_neg hj]
        refine .inr ⟨c, by rw [List.getElem?_append_right (by omega)]; simpa using e, .refl _, ?_⟩
        rw [List.getElem?_append_right (by simp; omega), List.getElem?_append_right (by omega)]
        simp; congr 1; omega
    · have ha : a < vs.length → ∃ v d, c1 = .pin d v ∧ ρ[a]? = some (.pin d v) := fun h => by
        rw [List.getElem?_append_left (by rw [fins_len hfl]; exact h)] at h1
        have ef : fs[a]? = some fs[a] := List.getElem?_eq_getElem (by omega)
        rw [fins_get ef (List.getElem?_eq_getElem h)] at h1
        cases h1
        cases hfj : fs[a] with
        | none => rw [hfj] at n1; exact absurd rfl n1
        | some d =>
          rw [hfj] at ef
          obtain ⟨v, ev, ec⟩ := finOk_at hf ef
          rw [List.getElem?_eq_getElem h] at ev; cases ev
          exact ⟨_, _, rfl, ec⟩
      have hb : b < vs.length → ∃ v d, c2 = .pin d v ∧ ρ[b]? = some (.pin d v) := fun h => by
        rw [List.getElem?_append_left (by rw [fins_len hfl]; exact h)] at h2
        have ef : fs[b]? = some fs[b] := List.getElem?_eq_getElem (by omega)
        rw [fins_get ef (List.getElem?_eq_getElem h)] at h2
        cases h2
        cases hfj : fs[b] with
        | none => rw [hfj] at n2; exact absurd rfl n2
        | some d =>
          rw [hfj] at ef
          obtain ⟨v, ev, ec⟩ := finOk_at hf ef
          rw [List.getElem?_eq_getElem h] at ev; cases ev
          exact ⟨_, _, rfl, ec⟩
      by_cases h3 : a < vs.length <;> by_cases h4 : b < vs.length
      · simpa [h3, h4] using e'
      · obtain ⟨_, _, _, q⟩ := ha h3
        have := (List.getElem?_eq_some_iff.mp q).1
        simp [h3, h4] at e'; omega
      · obtain ⟨_, _, _, q⟩ := hb h4
        have := (List.getElem?_eq_some_iff.mp q).1
        simp [h3, h4] at e'; omega
      · simp [h3, h4] at e'; omega
  · rcases List.mem_append.mp hc with hc | hc
    · rw [fins_eq] at hc
      obtain ⟨k, hk⟩ := List.mem_iff_getElem?.mp hc
      rw [List.getElem?_zipWith] at hk
      cases h1 : fs[k]? with
      | none => rw [h1] at hk; simp at hk
      | some f =>
        cases h2 : vs[k]? with
        | none => rw [h1, h2] at hk; simp at hk
        | some v =>
          rw [h1, h2] at hk; simp at hk; subst hk
          cases f with
          | none => exact .inl rfl
          | some d => exact .inr (.inr ⟨d, v, rfl⟩)
    · exact .inr (.inl (hx c hc))
theorem fn_eff {x qual : Str} {st : Stmt} {f : Addr} {fd : FuncData} {N ps : List Str} {k : Nat} {G : DCE} {τ : ESt} (F : Fun K x qual st f fd) (Sc : FnScope N ps (defScope st))
    (body : ∀ (cdv : Value) (A : Around) (outer : List Env) (s : Shared) (H : Hp) (E : XK), cdv = fd.code → Room k (A.deeper (envOfC qual (defScope st) s.heap.objs.size f cdv)) →
      DSs (cxOf (L2.CX P w) P w K mg base N qual (defScope st) f cdv A outer s H E) (W0 E) (defBody st) τ)
    (spec : ∀ ds R Ex vs, G ds R Ex → vs.length = ps.length → ds.length = ps.length → τ (fun cls ρ' => ∃ fs, Ex cls fs ∧ fs.length = ps.length ∧ finOk fs vs ρ')
      { nx := fun ρ' => ∃ fs, R .non fs ∧ fs.length = ps.length ∧ finOk fs vs ρ', rt := fun d o ρ' => o = true ∧ ∃ fs, R d fs ∧ fs.length = ps.length ∧ finOk fs vs ρ' } (entC N.length entP ds vs)) :
    FnOk P w K mg base (L2.CX P w) (k + 1) f fd ps (ESp K ps.length G) := by
  refine fn_body F Sc (fun vs H Q E h => ?_) (fun cdv A outer s H vs Q E hcd hr h => ?_)
  · obtain ⟨Kp, ds, R, Ex, h1, _⟩ := h
    exact h1
  · obtain ⟨Kp, ds, R, Ex, h1, h2, s0, hG, qr, qx⟩ := h
    have hN : ps.length ≤ N.length := by have := congrArg List.length Sc.pre; simp at this; omega
    have s1 : S K Kp H (entC N.length entP ds vs) (L2.start N vs) := by
      refine s0.remap (by simp [entC, L2.start, h1, h2]) id (fun j c e => ?_) fun a b _ _ _ _ _ _ e => e
      unfold entC at e
      by_cases hj : j < vs.length
      · rw [List.getElem?_append_left (by simp [h2, h1]; omega)] at e
        have hd : j < ds.length := by omega
        rw [List.getElem?_zipWith, List.getElem?_eq_getElem hd, List.getElem?_eq_getElem hj] at e
        simp at e; subst e
        refine .inr ⟨.pin ds[j] vs[j], by simp [List.getElem?_zipWith, hd, hj], ?_, ?_⟩
        · unfold entP; split
          · exact .unpin _ _
          · exact .refl _
        · unfold L2.start; rw [List.getElem?_append_left (by simpa using hj)]; rfl
      · rw [List.getElem?_append_right (by simp [h2, h1]; omega)] at e
        exact .inl (List.eq_of_mem_replicate (List.mem_of_getElem? e))
    refine ⟨_, body cdv A outer s H E hcd hr, Kp, _, _, _, s1, ?_, ?_, spec ds R Ex vs hG h1 h2⟩
    · rintro cls ρ' σ' H' Kp' ⟨fs, hx, hf, hfin⟩ sm s'
      exact qx cls fs H' hx hf (by
        have := S.leave (K := K) (ρx := []) (σx := []) (by simpa using (show S K Kp' H' ρ' σ' from s')) s'.len sm hfin (by omega) (fun c hc => (nomatch hc))
        simpa using this)
    · refine ⟨?_, ?_, fun _ _ _ _ z => z.elim, fun _ _ _ _ z => z.elim⟩
      · rintro ρ' σ' H' Kp' ⟨fs, hx, hf, hfin⟩ sm s'
        have s2 := s'.push (Sm.refl s'.tab) (Fresh.imm (d := .non) rfl (.non : Rep K H' .non .non []))
        exact qr _ fs _ H' hx hf (S.leave s2 s'.len sm hfin (by omega) (fun c hc => ⟨_, by simpa using hc⟩))
      · rintro d o v ρ' σ' H' Kp' ⟨rfl, fs, hx, hf, hfin⟩ sm s'
        exact qr _ fs _ H' hx hf (S.leave s' s'.lenL sm hfin (by omega) (fun c hc => ⟨d, by simpa [TC] using hc⟩))
end
end DL

namespace DL
open PySem PySem.Spec PyProof.Rows L2
set_option linter.all false
set_option Elab.async false
set_option maxRecDepth 100000
set_option maxHeartbeats 1000000

/-! ## D22: name = [..] -/
section
variable {X : Cx} {W : WX}
def sSetLc (i : Nat) (it : PTi) (α : PTg) (cond : PTt) (τe : PTr) (vs : List Nat) : ESt := fun X E ρ => pLc it α cond τe vs ⟨ρ.map Cell.data, fun cls => X cls ρ⟩ fun d o => o = true ∧ bindC i d true ρ E.nx
theorem s_setLc {i : Nat} {y : Str} {py : Pos} {elt tg iter : Expr} {ifs : List Expr} {scope : Scope} {own : List (Str × Nat)} {pos spos : Pos} {it : PTi} {α : PTg} {cond : PTt} {τe : PTr} (hc : X.calm = true) (hN : X.N.Nodup)
    (hi : DPI X W tg iter it) (ok : BlkOk X.N X.env.scope scope own)
    (hg : ∀ (s : Shared) (H : Hp) (C : Addr) (cl : List (Str × Addr)) (fp : List Addr), DPG (X.blk s H scope (compEnvC scope cl C X.env) fp) W tg α (own.map (·.2))) (ht : ∀ (s : Shared) (H : Hp) (C : Addr) (cl : List (Str × Addr)) (fp : List Addr), DPTs (X.blk s H scope (compEnvC scope cl C X.env) fp) W ifs cond)
    (he : ∀ (s : Shared) (H : Hp) (C : Addr) (cl : List (Str × Addr)) (fp : List Addr), DP (X.blk s H scope (compEnvC scope cl C X.env) fp) W elt τe) (hy : X.N[i]? = some y := by rfl) (hyl : X.env.scope.names.lookup y = some .local := by rfl)
    (hsw : swapsWith (.ListComp elt [⟨tg, iter, ifs, 0⟩] scope pos) (some (.Name y py)) spos.line X.env = pure true := by rfl) (hs : ∀ x, foldedSetIterable iter X.env x = pure x := by intro _; rfl) :
    DS X W (.Assign [.Name y py] (.ListComp elt [⟨tg, iter, ifs, 0⟩] scope pos) spos) (sSetLc i it α cond τe (own.map (·.2))) := by
  refine PS.weak (ps_setLc (g := lowPG X.K W α (List.map (fun x : Str × Nat => x.2) own)) (tt := lowPT X.K W cond) (te := lowP X.K W τe) hc hN hy hyl hsw hi ok hg ht he hs) fun T σ H q => ?_
  obtain ⟨Kp, ρ, Y, E, s, x, eo, h⟩ := q
  refine ⟨_, _, sp_of s x, h, fun xs J H1 hb sm hz good D1 hD => ?_⟩
  obtain ⟨ys, hl, hturn, hr⟩ := hb
  refine lc_fin good ((sp_of s x).same sm) hz hl hturn hD fun H2 s2 ⟨f, fr⟩ => ?_
  have s3 := s.push (sm.trans s2) (fr.ext sm)
  obtain ⟨hi, hn⟩ := bindC_run hr.2 (.ref D1)
  exact eo.nx _ _ H2 Kp hn (Same.refl _) (S.store (o := true) (by simpa [TC] using s3) s.len hi)
end
end DL

namespace DL
open PySem PySem.Spec PyProof.Rows L2
set_option linter.all false
set_option Elab.async false
set_option maxRecDepth 100000
set_option maxHeartbeats 1000000

/-! ## D25: a comprehension whose parts may change things -/
section
variable {K : PySem.W.Frag} {H : Hp}
/-- cells exchanged for cells that own nothing -/
theorem S.over {Kp : Hp} {ρ ρ' : Cells} {σ σ' : L2.St} (s : S K Kp H ρ σ) (hl : ρ'.length = ρ.length) (hl2 : σ'.length = σ.length)
    (h : ∀ (j : Nat) (c : Cell), ρ'[j]? = some c → (ρ[j]? = some c ∧ σ'[j]? = σ[j]?) ∨ ∃ u, σ'[j]? = some u ∧ CellOk K Kp H c u []) : S K Kp H ρ' σ' := by
  obtain ⟨fp, s⟩ := s
  classical
  let P : Nat → Prop := fun j => ∃ c, ρ'[j]? = some c ∧ ρ[j]? = some c ∧ σ'[j]? = σ[j]?
  have p1 : ∀ j, P j → (fun j => if P j then fp j else []) j = fp j := fun j hj => if_pos hj
  have p2 : ∀ j, ¬ P j → (fun j => if P j then fp j else []) j = [] := fun j hj => if_neg hj
  have sub : ∀ j a, a ∈ (fun j => if P j then fp j else []) j → a ∈ fp j := fun j a m => by
    by_cases hj : P j
    · rw [p1 j hj] at m; exact m
    · rw [p2 j hj] at m; cases m
  refine ⟨fun j => if P j then fp j else [], ⟨by have := s.len; omega, fun j c e => ?_, fun j e => ?_, fun j => ?_, fun i j a h1 h2 => s.dj i j a (sub i a h1) (sub j a h2), fun j a m => s.kp j a (sub j a m), s.sub⟩⟩
  · by_cases hj : P j
    · obtain ⟨c', e1, e2, e3⟩ := id hj
      rw [e] at e1; cases e1
      obtain ⟨u, eu, q⟩ := s.cell j c e2
      exact ⟨u, e3.trans eu, by rw [show (if P j then fp j else []) = fp j from if_pos hj]; exact q⟩
    · rcases h j c e with ⟨e2, e3⟩ | ⟨u, eu, q⟩
      · exact absurd ⟨c, e, e2, e3⟩ hj
      · exact ⟨u, eu, by rw [show (if P j then fp j else []) = [] from if_neg hj]; exact q⟩
  · exact if_neg fun ⟨c, e1, _⟩ => by rw [e] at e1; cases e1
  · by_cases hj : P j
    · rw [show (if P j then fp j else []) = fp j from if_pos hj]; exact s.nd j
    · rw [show (if P j then fp j else []) = [] from if_neg hj]; exact List.nodup_nil
end
section
variable {X : Cx} {W : WX} {e : Expr} {es : List Expr} {x : Str} {p pos : Pos} {n : Nat} {G : DCE} {τs : ETn}
/-- a def that changes what it is handed, called where nothing may be raised -/
def eCallN (G : DCE) (n : Nat) (τs : ETn) : ETr := fun X ρ R => τs X ρ fun as ρ' => ∃ ds, argD as ρ' = some ds ∧ ds.length = n ∧ (argN as).Nodup ∧ G ds (fun d fs => R d true (putF as fs ρ')) (fun _ _ => False)
theorem e_callN {k : Nat} {f : Addr} {fd : FuncData} {ps : List Str} (F : FnOk X.prog X.w X.K X.mg X.base (L2.CX X.prog X.w) k f fd ps (ESp X.K n G)) (hr : Room k X.A) (hg : Gl X x) (hm : X.mg x = some (.ref f)) (hk : PySem.W.keepIn X.K (.ref f) = true) (hb : Binds X.K fd ps [])
    (ha : DEN X W (e :: es) τs) (hdb : (x == ("__debug__" : Str)) = false := by decide) (he : starEach (e :: es) X.env = (false, eval e X.env) :: starEach es X.env := by rfl) (hpl : (backTo pos (starEach es X.env)).any (·.1) = false := by rfl) :
    DE X W (.Call (.Name x p) (e :: es) [] pos) (eCallN G n τs) :=
  PE.weak (pe_call F hr hg hm hk hb .nil passL ha hdb he hpl) fun σ H Q q => by
    obtain ⟨Kp, ρ, ts, vs, X, R, hl, s, xo, h, q⟩ := q
    have ht := s.lenT hl
    refine ⟨Kp, ρ, ts, vs, X, _, hl, s, xo, h, fun as ρ2 us all H2 K2 hc sm2 s2 hlen mx => ?_⟩
    obtain ⟨ds, hd, hn, nd, hG⟩ := hc
    obtain ⟨Kc, s3, back⟩ := s2.back ht hlen mx hd nd
    have h1 := mx.len
    have h2 := (argD_lt hd).2
    refine ⟨Kc, ds, _, fun _ _ => False, by simp; omega, hn, by simpa using s3, hG, fun d fs v H' hr hfs s4 => ?_, fun cls fs H' hx _ _ => hx.elim⟩
    simp only [List.append_nil] at hfs s4
    exact q _ true _ v H' K2 hr sm2 (back fs [.own d] [some v] H' (by omega) (fun c hc => .inr ⟨d, by simpa using hc⟩) s4)
end
/-! ### the walk -/
def cellAt (η : En) (j : Nat) : Cell := match η.v[j]? with | some (some d) => .own d | _ => .no
def putIds (f : Nat → Cell) (ρ : Cells) (vs : List Nat) : Cells := vs.foldr (fun j ρ => ρ.set j (f j)) ρ
abbrev bindIds (ρ : Cells) (vs : List Nat) (η : En) : Cells := putIds (cellAt η) ρ vs
abbrev noIds (ρ : Cells) (vs : List Nat) : Cells := putIds (fun _ => .no) ρ vs
theorem putIds_len (f : Nat → Cell) (ρ : Cells) (vs : List Nat) : (putIds f ρ vs).length = ρ.length := by
  induction vs with
  | nil => rfl
  | cons v vs ih => show ((putIds f ρ vs).set v (f v)).length = _; rw [List.length_set, ih]
theorem putIds_get (f : Nat → Cell) (ρ : Cells) (vs : List Nat) (j : Nat) : (putIds f ρ vs)[j]? = if j ∈ vs ∧ j < ρ.length then some (f j) else ρ[j]? := by
  induction vs with
  | nil => simp [putIds]
  | cons v vs ih =>
    show ((putIds f ρ vs).set v (f v))[j]? = _
    rw [List.getElem?_set, putIds_len]
    by_cases hv : v = j
    · subst hv
      by_cases hj : v < ρ.length
      · simp [hj]
      · simp [hj]
    · rw [if_neg hv, ih]
      simp [show j ≠ v from fun z => hv z.symm]
abbrev lcE (xs : List D) (α : PTg) (cond : ETt) (τe : ETr) (vs : List Nat) (ρ1 : Cells) (R : D → Bool → Cells → Prop) : Prop :=
  ∃ I : Nat → List D → Cells → Prop, I 0 [] ρ1 ∧
    (∀ (i : Nat) (x : D) (acc : List D) (ρ2 : Cells), xs[i]? = some x → I i acc ρ2 → acc.length ≤ i → α x (wipeE ⟨ρ2.map Cell.data, fun _ => False⟩ vs) fun η => (∀ j ∈ vs, ∃ d, η.v[j]? = some (some d) ∧ d.imm = true) ∧
      cond (fun _ _ => False) (bindIds ρ2 vs η) fun b ρ3 => if b = true then τe (fun _ _ => False) ρ3 fun d o ρ4 => o = true ∧ I (i + 1) (acc ++ [d]) (noIds ρ4 vs) else I (i + 1) acc (noIds ρ3 vs)) ∧
    ∀ acc ρ2, I xs.length acc ρ2 → R (.lst acc) true ρ2
section
variable {K : PySem.W.Frag} {W : WX} {H : Hp}
/-- the own slots bound, in the block -/
theorem S.bindB {Kp : Hp} {ρ ts : Cells} {σ σ' us : L2.St} {vs : List Nat} {η : En} {W' : WX} (s : S K Kp H (ρ ++ ts) (σ ++ us)) (hl : ρ.length = σ.length) (hl2 : σ'.length = σ.length) (hu : ∀ j, j ∉ vs → σ'[j]? = σ[j]?)
    (sp : SP K W' H η σ') (hv : ∀ j ∈ vs, ∃ d, η.v[j]? = some (some d) ∧ d.imm = true) : S K Kp H (bindIds ρ vs η ++ ts) (σ' ++ us) := by
  refine s.over (by simp [putIds_len]) (by simp [hl2]) fun j c e => ?_
  by_cases hj : j < ρ.length
  · rw [List.getElem?_append_left (by rw [putIds_len]; exact hj), putIds_get] at e
    rw [List.getElem?_append_left hj, List.getElem?_append_left (by omega), List.getElem?_append_left (by omega)]
    by_cases hm : j ∈ vs
    · rw [if_pos ⟨hm, hj⟩] at e
      obtain ⟨d, e1, hi⟩ := hv j hm
      have : cellAt η j = .own d := by unfold cellAt; rw [e1]
      rw [this] at e; cases e
      obtain ⟨v, f, e2, r⟩ := sp.rep j d e1
      have hf := r.imm hi
      subst hf
      exact .inr ⟨_, e2, ⟨v, rfl, r⟩, fun a m => (nomatch m)⟩
    · rw [if_neg (fun z => hm z.1)] at e
      exact .inl ⟨e, hu j hm⟩
  · rw [List.getElem?_append_right (by rw [putIds_len]; omega), putIds_len] at e
    rw [List.getElem?_append_right (by omega), List.getElem?_append_right (by omega), List.getElem?_append_right (by omega), hl2]
    exact .inl ⟨e, rfl⟩
theorem S.unbind {Kp : Hp} {ρ ts : Cells} {σ σ' us : L2.St} {vs : List Nat} (s : S K Kp H (ρ ++ ts) (σ' ++ us)) (hl : ρ.length = σ.length) (hl2 : σ'.length = σ.length) (hu : ∀ j, j ∉ vs → σ'[j]? = σ[j]?) :
    S K Kp H (noIds ρ vs ++ ts) (σ ++ us) := by
  refine s.over (by simp [putIds_len]) (by simp [hl2]) fun j c e => ?_
  by_cases hj : j < ρ.length
  · rw [List.getElem?_append_left (by rw [putIds_len]; exact hj), putIds_get] at e
    rw [List.getElem?_append_left hj, List.getElem?_append_left (by omega), List.getElem?_append_left (by omega)]
    by_cases hm : j ∈ vs
    · rw [if_pos ⟨hm, hj⟩] at e
      cases e
      exact .inr ⟨_, List.getElem?_eq_getElem (by omega), rfl⟩
    · rw [if_neg (fun z => hm z.1)] at e
      exact .inl ⟨e, (hu j hm).symm⟩
  · rw [List.getElem?_append_right (by rw [putIds_len]; omega), putIds_len] at e
    rw [List.getElem?_append_right (by omega), List.getElem?_append_right (by omega), List.getElem?_append_right (by omega), hl2]
    exact .inl ⟨e, rfl⟩
theorem set_last {α : Type} (A : List α) (c c' : α) : (A ++ [c]).set A.length c' = A ++ [c'] := by
  induction A with
  | nil => rfl
  | cons a A ih => simp [ih]
/-- one thing more in the growing list -/
theorem S.grow {Kp : Hp} {A : Cells} {B : L2.St} {acc : List D} {d : D} {D1 : Addr} {v : V} (s : S K Kp H (A ++ [.own (.lst acc)] ++ [.own d]) (B ++ [some (.ref D1)] ++ [some v])) (hl : A.length = B.length) :
    ∃ av, H D1 = some (.lst av) ∧ av.length = acc.length ∧ S K Kp (upd H D1 (.lst (av ++ [v]))) (A ++ [.own (.lst (acc ++ [d]))]) (B ++ [some (.ref D1)]) := by
  have s' : S K Kp H ((A ++ [.own (.lst acc)]) ++ ([] ++ [.own d])) ((B ++ [some (.ref D1)]) ++ ([] ++ [some v])) := by simpa using s
  have e1 : (A ++ [Cell.own (.lst acc)])[A.length]? = some (.own (.lst acc)) := by simp
  obtain ⟨u, f, fx, ev, r1, r2, nd, mu, fin⟩ := S.change1 s' (by simp [hl]) e1 (.inl rfl)
  have ev2 : (B ++ [some (V.ref D1)])[A.length]? = some (some (.ref D1)) := by rw [hl]; simp
  rw [ev2] at ev; cases ev
  obtain ⟨p, us, f', e, hp, r3, rfl⟩ := r1.lst_inv
  cases e
  have nd' := List.nodup_cons.mp (show (D1 :: (f' ++ fx)).Nodup from nd)
  refine ⟨us, hp, r3.len.symm, ?_⟩
  have kp : ∀ g, D1 ∉ g → Kept H (upd H D1 (.lst (us ++ [v]))) g := fun g hg => ⟨fun a m o e => by rw [upd_ne (show a ≠ D1 from fun z => hg (z ▸ m))]; exact e, fun a ts e => by rw [upd_ne (show a ≠ D1 from fun z => by rw [z, hp] at e; exact tno ts e)]; exact e⟩
  have := fin _ (.lst (acc ++ [d])) (D1 :: (f' ++ fx)) (fun a o e n => by rw [upd_ne (show a ≠ D1 from fun z => n (by rw [z]; exact List.mem_cons_self))]; exact e) (.lst upd_same ((r3.app (.one r2)).keep (kp _ nd'.1))) nd (fun a m => by
    rcases List.mem_cons.mp m with rfl | m
    · rw [upd_same]; trivial
    · exact MutAll.keep (fp := f' ++ fx) (fun a m => mu a (List.mem_cons_of_mem _ m)) (kp _ nd'.1) a m) fun a m => .inl m
  rw [set_last] at this
  simpa [reC] using this
theorem lcE_fin {J : It} {xs : List D} {K1 : Hp} {ρ1 ts : Cells} {σ us : L2.St} {α : PTg} {cond : ETt} {τe : ETr} {vs : List Nat} {R : D → Bool → Cells → Prop} {Q : V → Hp → Prop}
    (good : Good K J xs K1) (s : S K K1 H (ρ1 ++ ts) (σ ++ us)) (hl : ρ1.length = σ.length) (hz : xs.length ≤ sizeLine) (h : lcE xs α cond τe vs ρ1 R)
    (hq : ∀ D1 acc H' K' ρ', R (.lst acc) true ρ' → Same K1 K' → S K K' H' (ρ' ++ (ts ++ [.own (.lst acc)])) (σ ++ (us ++ [some (.ref D1)])) → Q (.ref D1) H') :
    ∀ D1, H D1 = none → ∃ Wi : Nat → Nat → Hp → Prop, (∃ m, Wi 0 m (upd H D1 (.lst []))) ∧ ∀ i m H, Wi i m H →
      (J.stop i H ∧ Q (.ref D1) H) ∨ (J.go i H ∧ ∃ Nx : Hp → Prop, (∀ H', Nx H' → ∃ m', m' < m ∧ Wi (i + 1) m' H') ∧ ∀ x H', J.yld i H x H' → (lowPG K W α vs) x (L2.wipe σ vs) H' fun σ2 H2 => L2.wipe σ2 vs = L2.wipe σ vs ∧ (lowET K W cond) σ2 H2 fun b H3 =>
        if b = true then (lowE K W τe) σ2 H3 fun y H4 => ∃ acc, H4 D1 = some (.lst acc) ∧ acc.length < sizeLine ∧ Nx (upd H4 D1 (.lst (acc ++ [y]))) else Nx H3) := by
  intro D1 hD
  obtain ⟨I, h0, step, fin⟩ := h
  let V : Nat → Hp → Prop := fun i H' => i ≤ xs.length ∧ ∃ K2 ρ2 acc, acc.length ≤ i ∧ ρ2.length = σ.length ∧ S K K2 H' (ρ2 ++ (ts ++ [.own (.lst acc)])) (σ ++ (us ++ [some (.ref D1)])) ∧ Same K1 K2 ∧ I i acc ρ2
  have hts : ts.length = us.length := s.lenT hl
  refine ⟨fun i m H' => m = xs.length - i ∧ V i H', ⟨xs.length, by simp, Nat.zero_le _, K1, ρ1, [], Nat.le_refl _, hl, s.push' (.of s.tab (same_upd hD)) ⟨.lst upd_same .nil, by simp, fun a m => by rw [List.mem_singleton.mp m]; exact nt_of hD, fun a m => by rw [List.mem_singleton.mp m, upd_same]; trivial⟩, Same.refl _, h0⟩, fun i m H2 hW => ?_⟩
  obtain ⟨rfl, hi, K2, ρ2, acc, hal, hl2, s2, sm2, hI⟩ := hW
  have sH : Same K1 H2 := sm2.trans s2.sub'
  by_cases hlt : i < xs.length
  · refine .inr ⟨good.go i H2 sH hlt, V (i + 1), fun H' hv => ⟨_, by omega, rfl, hv⟩, fun x H3 hy => ?_⟩
    obtain ⟨d, g, e1, smH, rd, _⟩ := good.yld i H2 x H3 sH hlt hy
    have s3 := s2.same smH
    have hturn := step i d acc ρ2 e1 hI hal
    refine ⟨d, g, _, _, rd, (SP.wipe (W := W) (S.sp (W := W) s3 hl2 (ex := fun _ => False) fun _ _ _ z => z.elim) vs), hturn, fun η' σ' hc sp hlen hu => ⟨?_, ?_⟩⟩
    · rw [← wipe_wipe σ vs]
      exact wipe_eq hlen hu
    · obtain ⟨hv, hc⟩ := hc
      have hlen' : σ'.length = σ.length := by rw [hlen, L2.wipe_length]
      have hu' : ∀ j, j ∉ vs → σ'[j]? = σ[j]? := fun j hj => by rw [hu j hj, wipe_get, if_neg (fun z => hj z.1)]
      have s4 := s3.bindB hl2 hlen' hu' sp hv
      refine ⟨K2, _, _, _, fun _ _ => False, _, by rw [putIds_len]; omega, s4, fun _ _ _ _ z => z.elim, hc, fun b ρ3 H4 K3 hb sm3 s5 => ?_⟩
      have hl3 : ρ3.length = σ'.length := s5.lenR (by simp [hts]) rfl
      cases b with
      | false =>
        exact ⟨hlt, K3, noIds ρ3 vs, acc, by omega, by rw [putIds_len]; omega, s5.unbind (by omega) hlen' hu', sm2.trans sm3, hb⟩
      | true =>
        refine ⟨K3, ρ3, _, _, fun _ _ => False, _, hl3, s5, fun _ _ _ _ z => z.elim, hb, fun d2 o ρ4 v H5 K4 hr sm4 s6 => ?_⟩
        obtain ⟨rfl, hI2⟩ := hr
        have hl4 : ρ4.length = σ'.length := s6.lenR (by simp [hts]) rfl
        have s7 : S K K4 H5 ((ρ4 ++ ts) ++ [.own (.lst acc)] ++ [.own d2]) ((σ' ++ us) ++ [some (.ref D1)] ++ [some v]) := by simpa [TC, List.append_assoc] using s6
        obtain ⟨av, e5, hal5, s8⟩ := s7.grow (by simp [hl4, hts])
        refine ⟨av, e5, by omega, hlt, K4, noIds ρ4 vs, acc ++ [d2], by simp; omega, by rw [putIds_len]; omega, ?_, (sm2.trans sm3).trans sm4, hI2⟩
        exact S.unbind (by simpa [List.append_assoc] using s8) (by omega) hlen' hu'
  · have hi' : i = xs.length := by omega
    subst hi'
    exact .inl ⟨good.stop _ H2 sH (Nat.le_refl _), hq D1 acc H2 K2 ρ2 (fin acc ρ2 hI) sm2 s2⟩
end
/-! ### over a range -/
def eLcR (τs : ETa) (α : PTg) (cond : ETt) (τe : ETr) (vs : List Nat) : ETr := fun X ρ R => τs X ρ fun ds ρ1 => ∃ n : Int, ds = [.int n] ∧ -4611686018427387904 ≤ n ∧ n ≤ 16777216 ∧ lcE ((List.range n.toNat).map fun i => .int (i : Nat)) α cond τe vs ρ1 R
/-- over a name that holds a tuple of things that cannot change -/
def eLcN (i : Nat) (α : PTg) (cond : ETt) (τe : ETr) (vs : List Nat) : ETr := fun X ρ R => ∃ c xs, ρ[i]? = some c ∧ c.data = some (.tup xs) ∧ (D.tup xs).imm = true ∧ xs.length ≤ sizeLine ∧ lcE xs α cond τe vs ρ R
def etYes : ETt := fun _ ρ R => R true ρ
section
variable {X : Cx} {W : WX}
def DETs (X : Cx) (W : WX) (ifs : List Expr) (τ : ETt) : Prop := PTs X ifs (lowET X.K W τ)
theorem ets_nil : DETs X W [] etYes := PTs.weak pts_nil fun σ H Q q => by
  obtain ⟨Kp, ρ, ts, vs, X, R, hl, s, x, h, q⟩ := q
  exact q _ _ _ _ h (Same.refl Kp) s
end
end DL

namespace DL
open PySem PySem.Spec PyProof.Rows L2
set_option linter.all false
set_option Elab.async false
set_option maxRecDepth 100000
set_option maxHeartbeats 1000000

/-! ## D26: int(x), min and max of a list of ints -/
section
variable {X : Cx}
def intM : DC := fun ds R => match ds with
  | [.int i] => R (.int i) true
  | [.bl b] => R (.int (if b then 1 else 0)) true
  | _ => False
def minLM : DC := fun ds R => match ds with
  | [.lst xs] => ∃ ns, toInts xs = some ns ∧ ns ≠ [] ∧ ∀ m, m ∈ ns → (∀ y ∈ ns, m ≤ y) → R (.int m) true
  | _ => False
end
end DL

namespace DL
open PySem PySem.Spec PyProof.Rows L2
set_option linter.all false
set_option Elab.async false
set_option maxRecDepth 100000
set_option maxHeartbeats 4000000

/-! ## D27: enumerate of a tuple -/
def tupItO (l : Addr) : Obj := ⟨.type "tuple_iterator", none, .fields #[.ref l, .int 0 0], #[]⟩
def enumO (a : Addr) : Obj := ⟨.type "enumerate", none, .fields #[.none, .bool false, .ref a, rawInt 0, .none, .none], #[]⟩
open AutoSeq1 (wpAny_loadPart') in
theorem new_enumT (l : Addr) (its : Array Value) : Meets (Builtin.«enumerate.__new__» ⟨[.type "enumerate", .ref l], []⟩) (fun _ R s => s.heap.IsTuple l its ∧
    R (.ok (.ret (.ref (s.heap.push (tupItO l)).objs.size))) { s with heap := (s.heap.push (tupItO l)).push (enumO s.heap.objs.size) }) :=
  .of_wp fun prog w A R s hh => by
    obtain ⟨hp, g, d, tk, os⟩ := s
    obtain ⟨hL, hR⟩ := hh
    have h0 := sub_enumerate
    have hR' : R (.ok (.ret (.ref (hp.push (tupItO l)).objs.size))) ⟨(hp.push (tupItO l)).push (enumO hp.objs.size), g, d, tk, os⟩ := hR
    wp_walk
    refine wpAny_stack_any fun st => wpAny_pure ?_
    split
    · rename_i c _ _ _ _ _
      cases (c == Value.type "enumerate") <;>
        (wp_walk using wpAny_pyIter_tuple hL; exact ⟨_, rfl, hR'⟩)
    · wp_walk using wpAny_pyIter_tuple hL
      exact ⟨_, rfl, hR'⟩
/-- the tuple at a as it stands at each turn, its items numbered -/
def IteT (K : PySem.W.Frag) (a : Addr) : It :=
  ⟨fun i H => ∃ (xs : List V) (x : V), SqT K H a xs ∧ xs[i]? = some x,
   fun i H v H' => ∃ T x, v = .ref T ∧ H T = none ∧ H' = upd H T (.tup [.int (i : Nat), x]) ∧ ∀ xs, SqT K H a xs → xs[i]? = some x,
   fun i H => ∃ xs : List V, SqT K H a xs ∧ xs.length ≤ i⟩
abbrev enumD (xs : List D) : List D := xs.zipIdx.map fun p => D.tup [.int (p.2 : Nat), p.1]
section
variable {K : PySem.W.Frag} {H Kr : Hp} {a : Addr} {xs : List D} {us : List V} {f : List Addr}
end
/-! ### enumerate over data -/
def rEnum (K : PySem.W.Frag) : V → Hp → (It → Hp → Prop) → Prop := fun x H R => ∃ d f xs, Rep K H d x f ∧ ((d = .tup xs ∨ d = .lst xs) ∨ ∃ ns, d = .ord ns ∧ xs = ns.map .int) ∧ ∀ J, xs.length ≤ sizeLine → (∀ Kr, Holds H Kr f → Good K J (enumD xs) Kr) → R J H
def iEnumP (τ : PTr) : PTi := fun η R => τ η fun d _ => ∃ xs, ((d = .tup xs ∨ d = .lst xs) ∨ ∃ ns, d = .ord ns ∧ xs = ns.map .int) ∧ R (enumD xs)
def iEnumK (τ : ETk) : ETi := fun X ρ R => τ X ρ fun d ρ1 => ∃ xs, ((d = .tup xs ∨ d = .lst xs) ∨ ∃ ns, d = .ord ns ∧ xs = ns.map .int) ∧ R (enumD xs) ρ1
end DL

namespace DL
open PySem PySem.Spec PyProof.Rows L2
set_option linter.all false
set_option Elab.async false
set_option maxRecDepth 100000
set_option maxHeartbeats 4000000

/-! ## D28: sorted(xs, key=lambda a: len(d[a])), d a dict of the def around -/
/-- what the lambda's block says of its names -/
structure LamP (sc scope : Scope) (a d : Str) : Prop where
  kind : scope.kind = .function
  co : scope.isCoroutine = false
  gen : scope.isGenerator = false
  nocell : ∀ y ∈ scope.names, y.2 ≠ .cell
  arg : scope.names.lookup a = some .local
  len : scope.names.lookup ("len" : Str) = some .globalImplicit
  dic : scope.names.lookup d = some .free
  here : sc.names.lookup d = some .cell
  free : ∀ y ∈ scope.names, y.2 = .free → sc.names.lookup y.1 = some .cell ∨ sc.names.lookup y.1 = some .free
def lamPB (sc scope : Scope) (a d : Str) : Bool :=
  decide (scope.kind = .function) && !scope.isCoroutine && !scope.isGenerator && (scope.names.all fun y => !decide (y.2 = .cell)) && decide (scope.names.lookup a = some .local) && decide (scope.names.lookup ("len" : Str) = some .globalImplicit) &&
    decide (scope.names.lookup d = some .free) && decide (sc.names.lookup d = some .cell) && scope.names.all fun y => !decide (y.2 = .free) || decide (sc.names.lookup y.1 = some .cell) || decide (sc.names.lookup y.1 = some .free)
section
variable {X : Cx} {pins : List (Addr × Obj)} {σ : L2.St} {H : Hp} {s : Shared}
theorem LamP.has {scope : Scope} {a d : Str} (L : LamP X.env.scope scope a d) (ok : X.Ok) : ∀ y ∈ scope.names, y.2 = .free → ∃ c, X.env.cells.lookup y.1 = some c := fun y hy e => by
  rcases L.free y hy e with k | k
  · exact ok.has _ (.inl k)
  · exact ok.has _ (.inr k)
end
def ksort (L : Int → Nat) (ns : List Int) : List Int := ns.mergeSort fun a b => decide (L a ≤ L b)
def pSortLen (i : Nat) (τ : PTr) : PTr := fun η R => τ η fun d _ => ∃ (kvs : List (Key × D)) (ns : List Int) (L : Int → Nat), η.v[i]? = some (some (.dK kvs)) ∧ d = .lst (ns.map .int) ∧
  (∀ n ∈ ns, ∃ ls, alook kvs (.inl n) = some (.lst ls) ∧ L n = ls.length) ∧ R (.lst ((ksort L ns).map .int)) true
section
variable {X : Cx} {W : WX} {e : Expr} {τ : PTr} {pos p kpos lpos p1 p2 p3 p4 p5 : Pos}
end
end DL

namespace DL
open PySem PySem.Spec PyProof.Rows L2
set_option linter.all false
set_option Elab.async false
set_option maxRecDepth 100000
set_option maxHeartbeats 4000000

/-! ## D29: the end, with tables of code objects -/
/-- the defs that make lambdas, with their code objects and tables -/
def lamCs (K : PySem.W.Frag) : List (Addr × Addr) := lamNames.filterMap fun x => tabN K x
theorem tabK_mem {K : PySem.W.Frag} {p : Addr × Str} (h : p ∈ tabK K) : ∃ x c, x ∈ lamNames ∧ tabN K x = some (c, p.1) ∧ p.2 = x ++ ".<locals>." ++ "<lambda>" := by
  obtain ⟨x, hx, e⟩ := List.mem_filterMap.mp h
  obtain ⟨⟨c, P⟩, e1, rfl⟩ := Option.map_eq_some_iff.mp e
  exact ⟨x, c, hx, e1, rfl⟩
theorem lamCs_mem {K : PySem.W.Frag} {p : Addr × Addr} : p ∈ lamCs K ↔ ∃ x ∈ lamNames, tabN K x = some p := List.mem_filterMap
/-- at the law's entry the tables are empty -/
theorem tabs_empty {K : PySem.W.Frag} {H : Hp} (h : ∀ p ∈ lamCs K, H p.2 = some (.tbl #[])) : TabsK K H := fun p hp => by
  obtain ⟨x, c, hx, e, e2⟩ := tabK_mem hp
  exact LamX.TabS.nil (h (c, p.1) (lamCs_mem.mpr ⟨x, hx, e⟩))
theorem all_none {K : PySem.W.Frag} (h : ((lamCs K).all fun p => (K.lookup p.2).isNone) = true) : ∀ p ∈ lamCs K, K.lookup p.2 = none := fun p hp => by
  have := List.all_eq_true.mp h p hp
  simpa using this
/-- the head of a table, told by the hook -/
def okTab (K : PySem.W.Frag) (ts : List Addr) (x : Str) : Bool := match tabN K x with
  | none => true
  | some p => PySem.W.codeHdIn K p.1 p.2 && ts.contains p.2
theorem walk_tab {l : PySem.W.OpenLaw} {n k : Nat} {q : Program} {loose : List Str} {XP : (Str → Option Value) → Heap → Prop} {YP : World → Heap → Prop} {d : DefRec} {K : Params → PySem.W.Frag} {m : DCX}
    (h1 : l.most = some n) (h2 : n ≤ sizeLine) (h3 : d.params.defaults = []) (h4 : Room k callerA) (h5 : ∀ (w : World) (h : Heap), YP w h → (K w.params).In h)
    (h6 : ∀ x ∈ lamNames, ((∃ e, (recsOf q).find? (fun e => e.name == x) = some e) ∧ (x == ("Counted.number" : Str)) = false) ∨ (∀ w : World, tabN (K w.params) x = none) ∨ ∀ (w : World) (h : Heap) (p : Addr × Addr), YP w h → tabN (K w.params) x = some p → PySem.W.CodeHd h p.1 p.2 ∧ h.get? p.2 = some (PySem.W.tabObj #[]))
    (h7 : ∀ (w : World) (p : Addr × Addr), p ∈ lamCs (K w.params) → (K w.params).lookup p.2 = none)
    (hm : ∀ ns : List Int, ns.length ≤ n → (∀ z ∈ ns, Builtin.Int.intBits z ≤ 1048576) → m [.scr ns] (fun d _ => d = .bl true) fun _ => False)
    (F : ∀ (w : World) (mg : Str → Option Value) (fa : Addr) (h : Heap), (K w.params).In h → h.Ns mainGlobals mg → mg d.name = some (.ref fa) → ∃ fd : FuncData, (∀ (s : Shared) (u : Value), BindsTo s fd ⟨[u], []⟩ [("script", u)]) ∧
      ∀ base : Heap, (K w.params).In base → base.Ns mainGlobals mg → (∀ p ∈ lamCs (K w.params), LamX.TabB base mg p.1 p.2) → FnOk l.prog w (K w.params) mg base (L2.CX l.prog w) k fa fd ["script"] (PSp (K w.params) m)) :
    PySem.W.WalkO q loose XP YP l.row.toRowW d [] (fun f vs => PySem.call f vs) := by
  refine Att.attach_callB h1 h3 fun w s0 s1 mg mb fa o pm cd doc a vs ns G Y ho hd hcd hmg hobj hints hlen hbits hg => ?_
  have KX := h5 w _ Y
  obtain ⟨fd, hb, hF⟩ := F w mg fa _ KX G.T.g hmg
  have at_ : ∀ p ∈ lamCs (K w.params), PySem.W.CodeHd s1.heap p.1 p.2 ∧ s1.heap.get? p.2 = some (PySem.W.tabObj #[]) := fun p hp => by
    obtain ⟨x, hx, e⟩ := lamCs_mem.mp hp
    rcases h6 x hx with ⟨⟨r, hr⟩, hn⟩ | z | z
    · unfold tabN at e
      rw [if_neg (by rw [hn]; exact Bool.false_ne_true)] at e
      exact PySem.W.tab_of G.T KX hr e
    · rw [z w] at e; cases e
    · exact z w _ p Y e
  refine LamX.law_callTs (cs := lamCs (K w.params)) KX G.T.g G.T.b G.T.builtins G.T.nolimit hg (fun p hp => (at_ p hp).2) (h7 w) (fun p hp => (at_ p hp).1) G.T.bmain hobj hints (Nat.le_trans hlen h2) h4 hF hb (fun H hH hS => ?_) fun H e s' z => ?_
  · have hr : ∃ f, Rep (K w.params) H (.scr ns) (.ref a) f := by
      rcases hS with z | z
      · exact ⟨_, .scrF z⟩
      · exact ⟨_, .scrK (.inr z)⟩
    obtain ⟨f, hr⟩ := hr
    refine ⟨tabs_empty hH, [.scr ns], f ++ [], fun d _ => d = .bl true, fun _ => False, .cons hr .nil, hm ns hlen hbits, fun d o v H' hd _ rs => ?_, fun _ _ z => z.elim⟩
    subst hd
    obtain ⟨g, r⟩ := rs.rep
    exact r.bl_inv.1
  · obtain ⟨_, _, _, _, _, _, _, _, _, _, _, _, z⟩ := z; exact z.elim
end DL

namespace DL
open PySem PySem.Spec PyProof.Rows L2
set_option linter.all false
set_option Elab.async false
set_option maxRecDepth 100000
set_option maxHeartbeats 4000000

/-! ## D30: xs[::-1], more operators -/
section
variable {prog : Program} {w : World} {A : Around} {E : Value → Shared → Prop} {s : Shared}
theorem adjust_back (n : Nat) : Builtin.Slice.sliceAdjust none none (-1) (n : Int) = ((n : Int) - 1, -1) := by
  simp [Builtin.Slice.sliceAdjust]
theorem places_back (n : Nat) : Builtin.Slice.slicePlaces ((n : Int) - 1) (-1) (-1) = n := by
  simp [Builtin.Slice.slicePlaces]
  split <;> omega
theorem filterMap_some {α β : Type} {f : α → Option β} {g : α → β} : ∀ {l : List α}, (∀ x ∈ l, f x = some (g x)) → l.filterMap f = l.map g
  | [], _ => rfl
  | x :: l, h => by rw [List.filterMap_cons, h x List.mem_cons_self]; simp only [List.map_cons]; rw [filterMap_some fun y hy => h y (List.mem_cons_of_mem _ hy)]
theorem pick_back (xs : Array Value) : ((List.range xs.size).filterMap (fun m : Nat => xs[(((xs.size : Int) - 1) + (m : Int) * -1).toNat]?)).toArray = xs.toList.reverse.toArray := by
  congr 1
  have e : ∀ m ∈ List.range xs.size, xs[(((xs.size : Int) - 1) + (m : Int) * -1).toNat]? = some (xs.toList.reverse.getD m .none) := fun m hm => by
    have hm' := List.mem_range.mp hm
    have e1 : (((xs.size : Int) - 1) + (m : Int) * -1).toNat = xs.size - 1 - m := by omega
    rw [e1, List.getD_eq_getElem?_getD, List.getElem?_reverse (by simpa using hm')]
    simp
    rw [Array.getElem?_eq_getElem (by omega)]
    rfl
  rw [filterMap_some e]
  apply List.ext_getElem
  · simp
  · intro i h1 h2
    simp at h2
    simp [List.getElem_reverse, h2]
theorem sliceApplied_back {sl : Addr} {vst : Value} {n : Nat} {Q : Int × Int × Nat → Shared → Prop} (hs : s.heap.IsSliceOf sl .none .none vst) (ps : IsPart vst (some (-1)))
    (h : Q ((n : Int) - 1, -1, n) s) : wpAny (model prog w) A (Builtin.Slice.sliceApplied (.ref sl) (pure (n : Int))) Q E s := by
  obtain ⟨ob, g1, g2, g3⟩ := id hs
  unfold Builtin.Slice.sliceApplied Builtin.Slice.sliceFields
  refine wpAny_bind (wpAny_bind (wpAny_field g1 g3 (x := .none) rfl (wpAny_bind (wpAny_field g1 g3 (x := .none) rfl (wpAny_bind (wpAny_field g1 g3 (x := vst) rfl (wpAny_pure ?_)))))))
  refine wpAny_bind (HT.slicePart_ ps ?_)
  show wpAny _ _ (if ((-1 : Int) == 0) = true then _ else _) _ _ s
  rw [if_neg (by decide)]
  refine wpAny_bind (HT.slicePart_ .none (wpAny_bind (HT.slicePart_ .none (wpAny_bind (wpAny_pure ?_)))))
  show wpAny _ _ (match Builtin.Slice.sliceAdjust none none (-1) (n : Int) with | (a, b) => pure (a, (-1 : Int), Builtin.Slice.slicePlaces a b (-1))) _ _ s
  rw [adjust_back]
  show wpAny _ _ (pure ((n : Int) - 1, (-1 : Int), Builtin.Slice.slicePlaces ((n : Int) - 1) (-1) (-1))) _ _ s
  rw [places_back]
  exact wpAny_pure h
/-- t[::-1], t a tuple -/
theorem getItem_tuple_back {t sl : Addr} {items : Array Value} {vst : Value} {Q : Value → Shared → Prop} (ht : IsTup s.heap t items) (hs : s.heap.IsSliceOf sl .none .none vst) (ps : IsPart vst (some (-1)))
    (h : Q (.ref s.heap.objs.size) { s with heap := s.heap.push { cls := .type "tuple", data := .seq items.toList.reverse.toArray } }) (hz : items.size ≤ sizeLine) : wpAny (model prog w) A (getItem (.ref t) (.ref sl)) Q E s := by
  have ok : sizeOk (.seq items.toList.reverse.toArray) := by
    show items.toList.reverse.toArray.size ≤ sizeLine
    simpa using hz
  obtain ⟨ob, g1, g2, g3⟩ := id hs
  have ty : s.TypeIs (.ref sl) "slice" := ⟨ob, g1, g2⟩
  unfold getItem
  try with_reducible refine wpAny_holding ?_
  first | refine wpAny_bind (wpAny_pure ?_) | skip
  refine wpAny_bind (wpAny_sequenceKey (s := s) ht.typeIs (by decide) ?_)
  refine wpAny_bind (wpAny_callSpecial?_slot (s := s) (name := Str.ofString "__getitem__") ht.typeIs PyProof.Rows.slot_tuple_getitem (wpAny_call_entry (s := s) PyProof.Rows.slot_tuple_getitem ht.typeIs entry_tuple_getitem ?_ (args_tuple_getitem _ _)))
  show wpAny _ _ (Builtin.Tuple.tupleItemsOf (Value.ref t) >>= _) _ _ s
  refine wpAny_bind (tupleItemsOf_ (s := s) ht ?_)
  refine wpAny_bind (wpAny_typeOf (s := s) ty ?_)
  rw [if_pos (show _ = _ by decide)]
  refine wpAny_bind (sliceApplied_back hs ps ?_)
  have hno : ¬ (((((items.size : Int) - 1) == 0 && (-1 : Int) == 1) && items.size == items.size) = true) := by
    intro q
    simp at q
  show wpAny _ _ (if ((((items.size : Int) - 1) == 0 && (-1 : Int) == 1) && items.size == items.size) = true then _ else _) _ _ s
  rw [if_neg hno, pick_back]
  first
    | exact wpAny_bind (m := Builtin.Tuple.tupleExact _) (wpAny_newObj_type (s := s) (wpAny_pure ⟨_, rfl, wpAny_pure h⟩) ok)
    | exact wpAny_bind (m := Builtin.Tuple.tupleExact _) (wpAny_newObj_type (s := s) (wpAny_bind (wpAny_pure (wpAny_pure ⟨_, rfl, wpAny_pure h⟩))) ok)
    | exact wpAny_bind (wpAny_bind (m := Builtin.Tuple.tupleExact _) (wpAny_newObj_type (s := s) (wpAny_pure (wpAny_pure ⟨_, rfl, wpAny_pure h⟩)) ok))
    | exact wpAny_bind (wpAny_bind (m := Builtin.Tuple.tupleExact _) (wpAny_newObj_type (s := s) (wpAny_pure ⟨_, rfl, wpAny_pure h⟩) ok))
end
/-! ### xs[::-1] over data -/
def pRev (τ : PTr) : PTr := fun η R => τ η fun d _ => match d with
  | .lst xs => R (.lst xs.reverse) (immL xs)
  | .tup xs => R (.tup xs.reverse) (immL xs)
  | .ord ns => R (.ord ns.reverse) true
  | _ => False
theorem immL_rev (xs : List D) : immL xs.reverse = immL xs := by
  induction xs with
  | nil => rfl
  | cons x xs ih => rw [List.reverse_cons, immL_app, ih]; simp [immL, Bool.and_comm]
theorem Reps.rev {K : PySem.W.Frag} {H : Hp} : ∀ {ds : List D} {vs : List V} {f : List Addr}, Reps K H ds vs f → ∃ g, Reps K H ds.reverse vs.reverse g
  | [], _, _, .nil => ⟨[], .nil⟩
  | _ :: _, _, _, .cons h t => by
    obtain ⟨g, r⟩ := t.rev
    rw [List.reverse_cons, List.reverse_cons]
    exact ⟨_, r.app (.one h)⟩
theorem p_rev {X : Cx} {W : WX} {e : Expr} {τ : PTr} {k : Nat} {p1 p2 p3 pos : Pos} (he : DP X W e τ) : DP X W (.Subscript e (.Slice none none (some (.UnaryOp .USub (.Constant (.int 1) k p1) p2)) p3) pos) (pRev τ) := by
  refine ⟨fun pins s σ H Q I h => ?_⟩
  obtain ⟨η, R, sp, h, q⟩ := h
  refine Subscript_ (thn (he.run pins s σ H (fun v H1 => v = v ∧ ∃ d o, Sm X.K H H1 ∧ Res X.K o H H1 d v ∧ (match d with | .lst xs => R (.lst xs.reverse) (immL xs) | .tup xs => R (.tup xs.reverse) (immL xs) | .ord ns => R (.ord ns.reverse) true | _ => False)) I ⟨η, _, sp, h, fun d o v H1 hd sm rs => ⟨rfl, d, o, sm, rs, hd⟩⟩) fun u s1 ⟨v, H1, I1, r1, _, d, o, sm, rs, hd⟩ => ?_)
  have hst : PO X (some (.UnaryOp .USub (.Constant (.int 1) k p1) p2)) (tPart (tUn (rU fun i => .int (-i)) (tC (.int 1)))) := po_some (pe_un un_neg pe_int)
  refine wpAny_Slice (thn (po_none.run pins s1 σ H1 (fun o Hx => o = none ∧ Hx = H1) I1 ⟨rfl, rfl⟩) fun vl s2 ⟨l, H2, I2, pl, el, e2⟩ => ?_)
  subst el e2
  refine thn (po_none.run pins s2 σ H2 (fun o Hx => o = none ∧ Hx = H2) I2 ⟨rfl, rfl⟩) fun vu s3 ⟨u2, H3, I3, pu, eu, e3⟩ => ?_
  subst eu e3
  refine thn (hst.run pins s3 σ H3 (fun o Hx => o = some (-1) ∧ Hx = H3) I3 ⟨1, rfl, -1, rfl, rfl, rfl⟩) fun vs s4 ⟨o4, H4, I4, ps, eo, e4⟩ => ?_
  subst eo e4
  have I5 : Inv X pins σ H4 { s4 with heap := s4.heap.push { cls := .type "slice", data := .fields #[vl, vu, vs] } } := I4.kept (t' := s4.toks) fun b ob q => Heap.get?_push_of_some _ q
  have evl : vl = Value.none := by cases pl; rfl
  have evu : vu = Value.none := by cases pu; rfl
  subst evl evu
  have fr := I5.hok.fresh (Nat.le_refl _)
  obtain ⟨f0, rd⟩ := rs.rep
  split at hd
  · obtain ⟨a, us, g, rfl, ha, rr, rfl⟩ := rd.lst_inv
    cases r1
    obtain ⟨its, r, ht, hz⟩ := I5.list (.of ha)
    refine tail_any (ops := [.ref a, .ref s4.heap.objs.size]) ht.isList.typeIs (PySem.slot_list_getitem.lookup) ?_ (by with_unfolding_all rfl)
    refine wpAny_getItem_list_slice ht.isList (Heap.IsSliceOf.new _ .none .none vs) pl pu ps (by decide) ?_ (by rw [List.size_toArray, ← r.length]; exact hz)
    rw [PySem.W.krv_pick]
    obtain ⟨g2, r2⟩ := rr.rev
    have rs2 := res_lst fr r2
    rw [immL_rev] at rs2
    refine ⟨.ref _, _, I5.laid (t' := s4.toks) (o := .lst us.reverse) (fun b ob q => Heap.get?_push_of_some _ q) (Nat.le_refl _) ⟨by rw [List.length_reverse]; exact hz, _, 0, r.reverse, Heap.get?_push_size _ rfl⟩, rfl, q _ _ _ _ hd (sm.thn (same_upd fr)) (rs2.ext sm)⟩
  · obtain ⟨a, us, rfl, ha, rr⟩ := rd.tup_inv
    cases r1
    obtain ⟨its, r, ht, hz⟩ := I5.tuple (.of ha)
    refine tail_any (ops := [.ref a, .ref s4.heap.objs.size]) ht.typeIs (PyProof.Rows.slot_tuple_getitem.lookup) ?_ (by with_unfolding_all rfl)
    refine getItem_tuple_back ht (Heap.IsSliceOf.new _ .none .none vs) ps ?_ (by rw [List.size_toArray, ← r.length]; exact hz)
    obtain ⟨g2, r2⟩ := rr.rev
    have rs2 := res_tup fr r2
    rw [immL_rev] at rs2
    refine ⟨.ref _, _, I5.laid (t' := s4.toks) (o := .tup us.reverse) (fun b ob q => Heap.get?_push_of_some _ q) (Nat.le_refl _) ⟨by rw [List.length_reverse]; exact hz, _, r.reverse, IsTup.new _ _⟩, rfl, q _ _ _ _ hd (sm.thn (same_upd fr)) (rs2.ext sm)⟩
  · rename_i ns
    obtain ⟨a, ob, rfl, ha, _, _⟩ := rd.ord_inv
    cases r1
    obtain ⟨its, r, ht, hz⟩ := I5.tuple (sqT_frz ha)
    refine tail_any (ops := [.ref a, .ref s4.heap.objs.size]) ht.typeIs (PyProof.Rows.slot_tuple_getitem.lookup) ?_ (by with_unfolding_all rfl)
    refine getItem_tuple_back ht (Heap.IsSliceOf.new _ .none .none vs) ps ?_ (by rw [List.size_toArray, ← r.length]; exact hz)
    refine ⟨.ref _, _, I5.laid (t' := s4.toks) (o := .frz (tupObj _) (.tup (ns.map V.int).reverse)) (fun b ob q => Heap.get?_push_of_some _ q) (Nat.le_refl _) (fz_ok (by rw [List.length_reverse]; exact hz) r.reverse), rfl, ?_⟩
    exact q _ _ _ _ hd (sm.thn (same_upd fr)) ((res_ord fr rfl (by simp)).ext sm)
  · exact hd.elim
/-! ### xs * k -/
def repM : DM := fun a b R => match a, b with
  | .lst xs, .int k => immL xs = true ∧ -(2 ^ 63) ≤ k ∧ k < 2 ^ 63 ∧ xs.length * k.toNat ≤ sizeLine ∧ R (.lst (List.replicate k.toNat xs).flatten) true
  | .tup xs, .int k => immL xs = true ∧ xs ≠ [] ∧ 2 ≤ k ∧ k ≤ 1000 ∧ xs.length ≤ 1000 ∧ R (.tup (List.replicate k.toNat xs).flatten) true
  | _, _ => False
theorem Reps.rep {K : PySem.W.Frag} {H : Hp} {ds : List D} {vs : List V} (r : Reps K H ds vs []) : ∀ n, Reps K H (List.replicate n ds).flatten (List.replicate n vs).flatten []
  | 0 => .nil
  | n + 1 => by
    rw [List.replicate_succ, List.replicate_succ, List.flatten_cons, List.flatten_cons]
    have := r.app (Reps.rep r n)
    simpa using this
theorem immL_rep {xs : List D} (h : immL xs = true) : ∀ n, immL (List.replicate n xs).flatten = true
  | 0 => rfl
  | n + 1 => by rw [List.replicate_succ, List.flatten_cons, immL_app, h, immL_rep h n]; rfl
theorem d_rep {X : Cx} : DOp X (binaryOp .Mult) repM := by
  refine OpR.weak (OpR.or op_rep op_repT) fun x y H Q q => ?_
  obtain ⟨da, db, fa, fb, R, ra, rb, ho, q⟩ := q
  unfold repM at ho
  split at ho
  · rename_i xs k
    obtain ⟨hi, h1, h2, h3, hr⟩ := ho
    obtain ⟨a, us, g, rfl, ha, rr, rfl⟩ := ra.lst_inv
    have e := rr.imm hi
    subst e
    refine .inl ⟨a, k, us, rfl, rb.int_inv.1, ha, h1, h2, by rw [← rr.len]; exact h3, fun p hp => q _ _ _ _ hr (same_upd hp) ?_⟩
    have := res_lst hp (rr.rep k.toNat)
    rwa [immL_rep hi] at this
  · rename_i xs k
    obtain ⟨hi, hne, h1, h2, h3, hr⟩ := ho
    obtain ⟨a, us, rfl, ha, rr⟩ := ra.tup_inv
    have e := rr.imm hi
    subst e
    refine .inr ⟨a, k, us, rfl, rb.int_inv.1, .of ha, fun z => hne (List.eq_nil_of_length_eq_zero (by rw [rr.len, z]; rfl)), h1, h2, by rw [← rr.len]; exact h3, fun p hp => q _ _ _ _ hr (same_upd hp) ?_⟩
    have := res_tup hp (rr.rep k.toNat)
    rwa [immL_rep hi] at this
  · exact ho.elim
def mulM' : DM := fun a b R => mulM a b R ∨ repM a b R
theorem d_mul' {X : Cx} : DOp X (binaryOp .Mult) mulM' := DOp.or d_mul d_rep
/-! ### min(t, u) -/
theorem min_two_tups {prog : Program} {w : World} {A : Around} {E : Value → Shared → Prop} {s : Shared} {a b : Addr} {xs ys : Array Value} {ns ms : List Int} {Q : Value → Shared → Prop} (hh : A.handled = none) (ha : IsTup s.heap a xs) (hb : IsTup s.heap b ys)
    (ia : IntsAre xs.toList ns) (ib : IntsAre ys.toList ms) (hu : A.units + 65 < cLine)
    (h : ∀ h' tk, (∀ c o, s.heap.get? c = some o → h'.get? c = some o) → Q (.ref (if HT.lexLt ms ns then b else a)) { s with heap := h', toks := tk }) : wpAny (model prog w) A (call (.builtin "min") [.ref a, .ref b]) Q E s := by
  have nm : (toString "min" ++ toString ".loop" : String) = "min.loop" := by decide
  refine call_function_tree (s := s) F.kind_min F.plain_min F.entry_min (F.args_min2 _ _) ?_
  show wpAny _ A.in1 (Builtin.Builtins.bindParams "min" ["key", "default"] 0 ⟨[], []⟩ >>= _) _ _ s
  refine wpAny_bind (wpAny_of_eq (show Builtin.Builtins.bindParams "min" ["key", "default"] 0 ⟨[], []⟩ = pure [none, none] from rfl) ?_)
  show wpAny _ A.in1 (newTuple [.ref a, .ref b] >>= _) _ _ s
  refine wpAny_bind (wpAny_newObj_type (s := s) ?_)
  have hT : (s.heap.push { cls := .type "tuple", data := .seq #[.ref a, .ref b] }).IsTuple s.heap.objs.size #[.ref a, .ref b] := ⟨_, Heap.get?_push_size _ rfl, rfl, 0, rfl⟩
  refine wpAny_bind (PySem.W.iter_tupleW (A := A.in1) hh hT fun s2 e2 W st hfp hw hk => ?_)
  refine wpAny_bind (wpAny_newObj_type (s := s2) ?_)
  have nf : s2.heap.objs.size ∉ _ := fun hm => Nat.lt_irrefl _ (hfp _ hm)
  rw [nm]
  have up1 : ∀ c o, s.heap.get? c = some o → s2.heap.get? c = some o := fun c o e => hk c o (Heap.get?_push_of_some _ e)
  have cmp : CmpIn prog w A.in1 .Lt s.heap (fun i v => #[Value.ref a, Value.ref b][i]? = some v) (fun i j => HT.lexLt (if i = 0 then ns else ms) (if j = 0 then ns else ms)) := by
    intro i j vi vj s' Q' E' hk' hi hj hq
    have at_ : ∀ (i : Nat) (v : Value), #[Value.ref a, Value.ref b][i]? = some v → ∃ c zs, v = .ref c ∧ IsTup s'.heap c zs ∧ IntsAre zs.toList (if i = 0 then ns else ms) := fun i v e => by
      rcases i with _ | _ | i
      · cases e; obtain ⟨o, e1, e2⟩ := ha; exact ⟨a, xs, rfl, ⟨o, hk' _ _ e1, e2⟩, ia⟩
      · cases e; obtain ⟨o, e1, e2⟩ := hb; exact ⟨b, ys, rfl, ⟨o, hk' _ _ e1, e2⟩, ib⟩
      · simp at e
    obtain ⟨c1, z1, rfl, t1, i1⟩ := at_ i vi hi
    obtain ⟨c2, z2, rfl, t2, i2⟩ := at_ j vj hj
    exact HT.lt_tupInts (s := s') (A := A.in1) t1 t2 i1 i2 (by show A.units + 1 < cLine; omega) hq
  refine wpAny_pure ⟨plainId_quiet F.plain_min_loop _, codeAny_min_loop_firstH W s.heap (fun c o e => hw c o (Heap.get?_push_of_some _ e)) _ cmp s2.heap.objs.size nf (fresh_in up1) _ (by show 0 < 2; decide) (fun c o e => Heap.get?_push_of_some _ (up1 c o e))
    (W.frame 0 s2 _ s2.toks st (Nat.le_refl _) fun c _ o e => Heap.get?_push_of_some _ e) (Heap.get?_push_size _ rfl) fun v s' hP m => ?_⟩
  have m2 := Moved.drop_new (tk := s2.toks) m (Nat.le_refl _)
  obtain ⟨h', tk, rfl, hk2⟩ := PySem.W.moved_old e2 rfl m2
  have ev : v = .ref (if HT.lexLt ms ns then b else a) := by
    have hP' : #[Value.ref a, Value.ref b][argBest (fun i j => HT.lexLt (if i = 0 then ns else ms) (if j = 0 then ns else ms)) 1]? = some v := hP
    simp only [argBest] at hP'
    by_cases hl : HT.lexLt ms ns = true
    · simp [hl] at hP' ⊢; exact hP'.symm
    · simp [hl] at hP' ⊢; exact hP'.symm
  subst ev
  exact h h' tk fun c o e => hk2 c o (Heap.get?_push_of_some _ e)
def min2T : DC := fun ds R => ∃ ns ms : List Int, ds = [.tup (ns.map .int), .tup (ms.map .int)] ∧ R (.tup ((if HT.lexLt ms ns then ms else ns).map .int)) true
theorem d_min2T {X : Cx} (hc : X.calm = true) (hu : X.A.units + 65 < cLine) : DCall X (.builtin "min") min2T := by
  intro pins s σ H xs us Q I r h
  obtain ⟨ds, fs, R, rr, ⟨ns, ms, rfl, hr⟩, q⟩ := h
  obtain ⟨v, w, f, g, rfl, r1, r2⟩ := rr.two_inv
  obtain ⟨a, rfl, ha⟩ := rep_tupInts r1 (toInts_map ns)
  obtain ⟨b, rfl, hb⟩ := rep_tupInts r2 (toInts_map ms)
  obtain ⟨u, u2, rfl, e1, e2⟩ := vals2 r
  cases e1; cases e2
  obtain ⟨its, v1, t1, _⟩ := I.tuple (.of ha)
  obtain ⟨jts, v2, t2, _⟩ := I.tuple (.of hb)
  refine min_two_tups (I.ok.hd hc) t1 t2 (by simpa using intsAre_of v1) (by simpa using intsAre_of v2) hu fun h' tk k => ?_
  refine ⟨.ref (if HT.lexLt ms ns then b else a), H, I.kept k, rfl, q _ _ _ _ hr (Same.refl H) ?_⟩
  by_cases hl : HT.lexLt ms ns = true
  · rw [if_pos hl, if_pos hl]; exact ⟨[], Fresh.imm (immL_ints ms) (.tup hb (reps_ints ms))⟩
  · rw [if_neg hl, if_neg hl]; exact ⟨[], Fresh.imm (immL_ints ns) (.tup ha (reps_ints ns))⟩
def min2M' : DC := fun ds R => min2M ds R ∨ min2T ds R
theorem d_min2' {X : Cx} (hc : X.calm = true) (hu : X.A.units + 65 < cLine) : DCall X (.builtin "min") min2M' := DCall.or (d_min2 hc) (d_min2T hc hu)
end DL

namespace DL
open PySem PySem.Spec PyProof.Rows L2
set_option linter.all false
set_option Elab.async false
set_option maxRecDepth 100000
set_option maxHeartbeats 4000000

/-! ## D31: a for over a dict that has a name, its values changed within -/
def keysD : D → Option (List D)
  | .dK kvs => some (kvs.map fun e => kD e.1)
  | .dT kvs => some (kvs.map fun e => kTD e.1)
  | _ => none
def DicO (u : HO) : Prop := (∃ es, u = .dK es) ∨ ∃ es, u = .dT es
theorem DicO.mut {u : HO} (h : DicO u) : Mut (some u) := by rcases h with ⟨es, rfl⟩ | ⟨es, rfl⟩ <;> trivial
theorem DicO.plain {u : HO} (h : DicO u) : Plain u := by rcases h with ⟨es, rfl⟩ | ⟨es, rfl⟩ <;> exact ⟨(fun ps z => nomatch z), (fun φ z => nomatch z)⟩
section
variable {K : PySem.W.Frag} {Kp Kq H : Hp} {ρ ts : Cells} {σ vs : L2.St}
end
/-- what stood ahead of the loop stands still where it is only read -/
def keptC : Cell → Cell → Prop
  | .ro d w, c => d.imm = true ∨ c = .ro d w
  | .lck _ w, c => ∃ d, c = .lck d w
  | _, _ => True
def keptCs : Cells → Cells → Prop
  | [], [] => True
  | c2 :: r2, c :: r => keptC c2 c ∧ keptCs r2 r
  | _, _ => False
abbrev loopQ (xs : List D) (γ : ETg) (t : ESt) (Y : EX) (E : DEnds) (ρ1 : Cells) : Prop :=
  ∃ I : Nat → Cells → Prop, I 0 ρ1 ∧ (∀ (i : Nat) (x : D) ρ2, xs[i]? = some x → I i ρ2 → γ x ρ2 fun ρ3 => t Y { E with nx := I (i + 1), ct := I (i + 1), bk := E.nx } ρ3) ∧ ∀ ρ2, I xs.length ρ2 → E.nx ρ2
/-- for k in d, d a name: the dict is locked, what it holds may be changed -/
def sForD (i : Nat) (γ : ETg) (t : ESt) : ESt := fun X E ρ => ∃ c d xs, ρ[i]? = some c ∧ c.data = some d ∧ keysD d = some xs ∧ match c with
  | .own _ => ∀ v, loopQ xs γ t (fun _ _ => False) { nx := fun ρ2 => keptCs ρ2 (ρ.set i (.lck d v)) ∧ ∃ d2, ρ2[i]? = some (.lck d2 v) ∧ E.nx (ρ2.set i (.own d2)), rt := fun x o ρ2 => o = true ∧ keptCs ρ2 (ρ.set i (.lck d v)) ∧ ∃ d2, ρ2[i]? = some (.lck d2 v) ∧ E.rt x o (ρ2.set i (.own d2)) } (ρ.set i (.lck d v))
  | .ro _ _ => loopQ xs γ t (fun _ _ => False) { nx := E.nx, rt := fun x o ρ2 => o = true ∧ E.rt x o ρ2 } ρ
  | .lck _ _ => loopQ xs γ t (fun _ _ => False) { nx := E.nx, rt := fun x o ρ2 => o = true ∧ E.rt x o ρ2 } ρ
  | _ => False
section
variable {X : Cx} {W : WX}
/-- for k in e, e a dict of its own (a call's) -/
def iDicT (τ : ETr) : ETi := fun X ρ R => τ X ρ fun d o ρ1 => o = true ∧ ∃ xs, keysD d = some xs ∧ R xs ρ1
end
end DL

namespace DL
open PySem PySem.Spec PyProof.Rows L2
set_option linter.all false
set_option Elab.async false
set_option maxRecDepth 100000
set_option maxHeartbeats 1000000

/-! ## D32: a slice whose parts change things -/
abbrev ETo := EX → Cells → (Option Int → Cells → Prop) → Prop
def lowEO (K : PySem.W.Frag) (W : WX) (τ : ETo) : TO := fun σ H Q => ∃ Kp ρ ts vs X R, ρ.length = σ.length ∧ S K Kp H (ρ ++ ts) (σ ++ vs) ∧ ExOk K W Kp X ts vs σ ∧ τ X ρ R ∧
  ∀ o ρ' H' Kp', R o ρ' → Same Kp Kp' → S K Kp' H' (ρ' ++ ts) (σ ++ vs) → Q o H'
def DEO (X : Cx) (W : WX) (e : Option Expr) (τ : ETo) : Prop := PO X e (lowEO X.K W τ)
def eoNone : ETo := fun _ ρ R => R none ρ
def eoSome (τ : ETr) : ETo := fun X ρ R => τ X ρ fun d _ ρ1 => ∃ i, d = .int i ∧ R (some i) ρ1
def eSl (τ : ETr) (tl th : ETo) : ETr := fun X ρ R => τ X ρ fun d o ρ1 => o = true ∧ tl X ρ1 fun l ρ2 => th X ρ2 fun u ρ3 => slM d l u fun d2 o2 => o2 = true ∧ R d2 true ρ3
section
variable {X : Cx} {W : WX} {e : Expr} {τ : ETr} {lo hi : Option Expr} {tl th : ETo} {pos p2 : Pos}
theorem eo_some (h : DE X W e τ) : DEO X W (some e) (eoSome τ) := PO.weak (po_some h) fun σ H Q q => by
  obtain ⟨Kp, ρ, ts, vs, X, R, hl, s, x, h, q⟩ := q
  have ht := s.lenT hl
  refine ⟨Kp, ρ, ts, vs, X, _, hl, s, x, h, fun d o ρ1 y H1 K1 hb sm s1 => ?_⟩
  obtain ⟨i, rfl, hr⟩ := hb
  have hl1 := s1.lenR ht (by simp)
  have s2 := s1
  rw [← List.append_assoc, ← List.append_assoc] at s2
  obtain ⟨w, g, e1, r1⟩ := s2.last (by simp [hl1, ht]) (TC_data o (.int i) y)
  cases e1
  exact ⟨i, r1.int_inv.1, q _ ρ1 _ K1 hr sm (s1.drop2 hl1 ht)⟩
end
end DL

namespace DL
open PySem PySem.Spec PyProof.Rows L2
set_option linter.all false
set_option Elab.async false
set_option maxRecDepth 100000
set_option maxHeartbeats 1000000

/-! ## D33: len(set(t)), t a tuple of ints -/
section
variable {X : Cx}
def tLenSetT (K : PySem.W.Frag) (ta : TE) : TE := fun σ H Q => ta σ H fun x H1 => ∃ (l : Addr) (ns : List Int), x = .ref l ∧ SqT K H1 l (ns.map V.int) ∧ ns.length ≤ 1000 ∧ ∀ out : List Int, out.Nodup → (∀ k, k ∈ out ↔ k ∈ ns) → Q (.int out.length) H1
end
section
variable {X : Cx} {W : WX} {a : Expr} {τ : PTr} {p p2 q pos : Pos}
def pLenSet (τ : PTr) : PTr := fun η R => τ η fun d _ => ∃ ns : List Int, d = .tup (ns.map .int) ∧ ns.length ≤ 1000 ∧ ∀ out : List Int, out.Nodup → (∀ k, k ∈ out ↔ k ∈ ns) → R (.int out.length) true
end
end DL

namespace DL
open PySem PySem.Spec PyProof.Rows L2
set_option linter.all false
set_option Elab.async false
set_option maxRecDepth 100000
set_option maxHeartbeats 1000000

/-! ## D34: name = [..], the parts of the comprehension changing things -/
section
variable {K : PySem.W.Frag} {W : WX}
theorem low_lcR {σ : L2.St} {H : Hp} {Q : VK} {τs : ETa} {α : PTg} {cond : ETt} {τe : ETr} {own : List Nat} (q : lowE K W (eLcR τs α cond τe own) σ H Q) :
    tLc (iRng1 (lowEA K W τs)) (lowPG K W α own) (lowET K W cond) (lowE K W τe) own σ H Q := by
  obtain ⟨Kp, ρ, ts, us, Y, R, hl, s, x, h, q⟩ := q
  have hts := s.lenT hl
  refine ⟨Kp, ρ, ts, us, Y, _, hl, s, x, h, fun ds ρ1 ws H1 K1 hd sm s1 hlen => ?_⟩
  obtain ⟨n, rfl, h1, h2, hr⟩ := hd
  have hl1 := s1.lenR hts (by simpa using hlen)
  have s3 := s1
  rw [← List.append_assoc, ← List.append_assoc] at s3
  obtain ⟨f, rr⟩ := s3.reps (by simp [hl1, hts])
  obtain ⟨v, rfl, r1⟩ := rr.one_inv
  rw [r1.int_inv.1]
  refine ⟨n, rfl, by omega, by omega, ?_⟩
  exact lcE_fin good_range0 (s1.drop2 hl1 hts) hl1 (by simp [sizeLine_eq]; omega) hr fun D1 acc H' K' ρ' h3 sm2 s5 => q (.lst acc) true ρ' _ H' K' h3 (sm.trans sm2) (by simpa [TC] using s5)
end
section
variable {X : Cx} {W : WX}
theorem s_setLcR {ya : Str} {py spos : Pos} {ix : Nat} {elt tg a : Expr} {ifs : List Expr} {scope : Scope} {own : List (Str × Nat)} {pos p rpos : Pos} {τs : ETa} {α : PTg} {cond : ETt} {τe : ETr} (hc : X.calm = true) (hN : X.N.Nodup) (hgR : Gl X "range") (hmR : X.mg "range" = none) (ha : DEA X W [a] τs) (ok : BlkOk X.N X.env.scope scope own)
    (hg : ∀ (s : Shared) (H : Hp) (C : Addr) (cl : List (Str × Addr)) (fp : List Addr), DPG (X.blk s H scope (compEnvC scope cl C X.env) fp) W tg α (own.map (·.2))) (ht : ∀ (s : Shared) (H : Hp) (C : Addr) (cl : List (Str × Addr)) (fp : List Addr), DETs (X.blk s H scope (compEnvC scope cl C X.env) fp) W ifs cond)
    (he : ∀ (s : Shared) (H : Hp) (C : Addr) (cl : List (Str × Addr)) (fp : List Addr), DE (X.blk s H scope (compEnvC scope cl C X.env) fp) W elt τe) (hsA : starEach [a] X.env = [(false, eval a X.env)] := by rfl) (hs : ∀ x, foldedSetIterable (.Call (.Name "range" p) [a] [] rpos) X.env x = pure x := by intro _; rfl) (hy : X.N[ix]? = some ya := by rfl) (hyl : X.env.scope.names.lookup ya = some .local := by rfl)
    (hsw : swapsWith (.ListComp elt [⟨tg, .Call (.Name "range" p) [a] [] rpos, ifs, 0⟩] scope pos) (some (.Name ya py)) spos.line X.env = pure true := by rfl) :
    DS X W (.Assign [.Name ya py] (.ListComp elt [⟨tg, .Call (.Name "range" p) [a] [] rpos, ifs, 0⟩] scope pos) spos) (sSet ix (eLcR τs α cond τe (own.map (·.2)))) := by
  refine PS.weak (ps_setLc (g := lowPG X.K W α (List.map (fun x : Str × Nat => x.2) own)) (tt := lowET X.K W cond) (te := lowE X.K W τe) hc hN hy hyl hsw (pi_range1 hgR hmR ha hsA) ok hg ht he hs) fun T σ H q => ?_
  obtain ⟨Kp, ρ, Y, E, s, x, eo, h⟩ := q
  refine low_lcR (lowE_of s x h fun d o ρ' v H' Kp' hr sm s' => ?_)
  obtain ⟨hi, hr⟩ := bindC_run hr v
  exact eo.nx _ _ H' Kp' hr sm (s'.store s'.lenL hi)
end
end DL

namespace DL
open PySem PySem.Spec PyProof.Rows L2
set_option linter.all false
set_option Elab.async false
set_option maxRecDepth 100000
set_option maxHeartbeats 1000000

/-! ## D35: try: .. except WayError as e: kinds = _law_kinds(e) -/
def errNames : List Str := ["NotReached", "NoPaper", "TooMany", "NoSuch", "NoLane", "NoRound", "NoText", "NoRow", "NoPlace", "NothingLeft"]
abbrev errV (n : Str) : Value := .str n 0
def kindsB (n : Str) : List Bool := errNames.map (fun m => m == n) ++ [true]
def kindsL (n : Str) : List D := (kindsB n).map .bl

/-! ### defs that are handed the exception of a suite -/
structure FnE (P : Program) (w : World) (K : PySem.W.Frag) (mg : Str → Option Value) (base : Heap) (k : Nat) (f : Addr) (fd : FuncData) (ps : List Str) (sp : Addr → Value → Sp) : Prop where
  lenE : ∀ a c zs H Q E, sp a c zs H Q E → zs.length = ps.length
  runE : ∀ (A : Around) (out : List Env) (t : Shared) (H : Hp) (as : Args) (us : List Value) (zs : List V) (Q : VK) (E : XK) (p : Addr × Obj) (c : Value), L2H.RoomH k A → L2H.PinOk out H t p → Zc c none p.2 → (∃ ws, p.2.data = .fields ws) →
    Env0 P w K mg base A out t H → BindsTo t fd as (ps.zip us) → Vals zs us → sp p.1 c zs H Q E → codeAny (model P w) A (.call (.ref f) as) (CR (L2.CX P w) out P w H t Q E) t
section
variable {P : Program} {w : World} {K : PySem.W.Frag} {mg : Str → Option Value} {base : Heap}
end
section
variable {X : Cx} {k : Nat} {f a : Addr} {oe : Obj} {c : Value} {fd : FuncData} {ps : List Str} {sp : Addr → Value → Sp} {x : Str} {q pos : Pos} {e : Expr} {es : List Expr} {t : TA}
/-- such a def, called -/
def tCallE (sp : Sp) (t : TA) : TE := fun σ H Q => t σ H fun zs H1 => sp zs H1 Q E0
def tB (i : Nat) (a : Addr) (b : Bool) : TE := fun σ H Q => σ[i]? = some (some (.ref a)) ∧ Q (.bl b) H
end
/-! ### _law_kinds -/
def tBs (i : Nat) (a : Addr) (bs : List Bool) : TA := bs.foldr (fun b t => tCons (tB i a b) t) tNil
/-- what it promises: e stands at a, of the class c -/
def spKinds (K : PySem.W.Frag) : Addr → Value → Sp := fun a c zs H Q _ => zs = [.ref a] ∧ ∃ n, n ∈ errNames ∧ c = cv K (errV n) ∧ ∀ H' p, Same H H' → H p = none → H' p = some (.lst ((kindsB n).map V.bl)) → Q (.ref p) H'
def tKinds (a : Addr) (bs cs es : List Bool) : TS := tSeq (tAsg (tLst (tBs 0 a bs)) (gName 1)) (tSeq (tAsg (tOp rCat (tVar 1) (tLst (tBs 0 a cs))) (gName 1)) (tRet (tOp rCat (tVar 1) (tLst (tBs 0 a es)))))
/-! ### what the text's classes of errors must be -/
def errAddr (K : PySem.W.Frag) (n : Str) : Option Addr := match PySem.W.nsIn K mainGlobals n with
  | some (some (.ref C)) => some C
  | _ => none
abbrev veBm : List Value := [.type "ValueError", .type "Exception", .type "BaseException", .type "object"]
def errB (K : PySem.W.Frag) (n : Str) : Bool := match errAddr K n with
  | some C => PySem.W.excIn K C veBm "ValueError.__new__" && PySem.W.keepIn K (.ref C) && decide (PySem.W.subIn K (.ref C) (.type "BaseException") = some true) && decide (PySem.W.typeIn K (.ref C) = some (.type "type"))
  | none => false
def isB (K : PySem.W.Frag) (n : Str) : Bool := match errAddr K n with
  | some C => decide (PySem.W.findIn K (.ref C) "__getattribute__" = some (some (.builtin "BaseException.__getattribute__"))) && decide (PySem.W.findIn K (.ref C) "__getattr__" = some none) && decide (PySem.W.subIn K (.ref C) (.type "BaseException") = some true)
      && PySem.W.hasDictIn K C && decide (PySem.W.findIn K (.ref C) "__class__" = some (some (.builtin "object.__class__"))) && decide (PySem.W.specialIn K (.builtin "object.__class__") "__get__" = some (some (.builtin "getset_descriptor.__get__")))
      && decide (PySem.W.takesIn K (.builtin "object.__class__") = some true) && decide (PySem.W.mroIn K C (.type "object") = some true)
      && (errNames.all fun m => match errAddr K m with
        | some B => decide (PySem.W.kitOne K (.ref C) (.ref B) = some (m == n))
        | none => false) && decide (PySem.W.kitOne K (.ref C) (.type "ValueError") = some true)
  | none => false
theorem errAddr_cv {K : PySem.W.Frag} {n : Str} {C : Addr} (h : errAddr K n = some C) : cv K (errV n) = .ref C ∧ PySem.W.nsIn K mainGlobals n = some (some (.ref C)) := by
  unfold errAddr at h
  split at h
  · rename_i C' e
    cases h
    unfold cv errV
    simp only [e]
    exact ⟨trivial, trivial⟩
  · cases h
structure ErrC (K : PySem.W.Frag) (mg : Str → Option Value) (x : Str) : Prop where
  ex : ∃ C, cv K (errV x) = .ref C ∧ mg x = some (.ref C) ∧ PySem.W.excIn K C veBm "ValueError.__new__" = true ∧ PySem.W.keepIn K (.ref C) = true ∧ PySem.W.subIn K (.ref C) (.type "BaseException") = some true ∧ PySem.W.typeIn K (.ref C) = some (.type "type")
theorem ErrC.of {K : PySem.W.Frag} {h : Heap} {mg : Str → Option Value} {x : Str} (X : K.In h) (G : h.Ns mainGlobals mg) (e : errB K x = true) : ErrC K mg x := by
  unfold errB at e
  split at e
  · rename_i C hC
    obtain ⟨h1, h2⟩ := errAddr_cv hC
    simp only [Bool.and_eq_true, decide_eq_true_eq] at e
    exact ⟨C, h1, PySem.W.mg_of X G h2, e.1.1.1, e.1.1.2, e.1.2, e.2⟩
  · cases e
structure IsC (K : PySem.W.Frag) (mg : Str → Option Value) : Prop where
  cls : ∀ n ∈ errNames, ∃ C, cv K (errV n) = .ref C ∧ mg n = some (.ref C) ∧ ExcC K C ∧ PySem.W.kitOne K (.ref C) (.type "ValueError") = some true ∧ ∀ m ∈ errNames, ∀ B, mg m = some (.ref B) → PySem.W.kitOne K (.ref C) (.ref B) = some (m == n)
theorem IsC.of {K : PySem.W.Frag} {h : Heap} {mg : Str → Option Value} (X : K.In h) (G : h.Ns mainGlobals mg) (e : (errNames.all fun n => isB K n) = true) : IsC K mg := ⟨fun n hn => by
  have e := List.all_eq_true.mp e n hn
  unfold isB at e
  split at e
  · rename_i C hC
    obtain ⟨h1, h2⟩ := errAddr_cv hC
    simp only [Bool.and_eq_true, decide_eq_true_eq] at e
    obtain ⟨⟨⟨⟨⟨⟨⟨⟨⟨a1, a2⟩, a3⟩, a4⟩, a5⟩, a6⟩, a7⟩, a8⟩, a9⟩, b1⟩ := e
    refine ⟨C, h1, PySem.W.mg_of X G h2, ⟨a1, a2, a3, a4, a5, a6, a7, a8⟩, b1, fun m hm B hB => ?_⟩
    have z := List.all_eq_true.mp a9 m hm
    split at z
    · rename_i B' hB'
      have := PySem.W.mg_of X G (errAddr_cv hB').2
      rw [hB] at this; cases this
      exact of_decide_eq_true z
    · cases z
  · cases e⟩
section
variable {X : Cx} {x m : Str} {j : Nat} {p p2 pos : Pos}
end
/-! ### the statement -/
section
variable {X : Cx} {W : WX} {body : List Stmt} {τ : ESt} {x f n y : Str} {np fp np2 py cp sp pos pos' : Pos} {i j : Nat}
def sTryKinds (i j : Nat) (τ : ESt) : ESt := fun X E ρ => i < ρ.length ∧ j < ρ.length ∧ i ≠ j ∧ τ (fun cls ρ' => ρ'.length = ρ.length ∧ ∃ n, n ∈ errNames ∧ cls = errV n ∧ E.nx ((ρ'.set i .no).set j (.own (.lst (kindsL n))))) E ρ
end
end DL

namespace DL
open PySem PySem.Spec PyProof.Rows L2
set_option linter.all false
set_option Elab.async false
set_option maxRecDepth 100000
set_option maxHeartbeats 1000000

/-! ## D36: xs.index(n), xs.remove(n), xs.reverse(), xs.insert(i, n), max of a list -/
section
variable {X : Cx}
/-- tuple.index of flat items -/
def rIndexT (K : PySem.W.Frag) : V → List V → Hp → VK → Prop := fun x xs H Q => ∃ (a : Addr) (ys : List V) (y : V) (j : Nat) (z : V), x = V.ref a ∧ xs = [y] ∧ SqT K H a ys ∧ flatV y = true ∧ ys.all flatV = true ∧ ys[j]? = some z ∧ eqV z y = true ∧
  (∀ (m : Nat) (z' : V), m < j → ys[m]? = some z' → eqV z' y = false) ∧ Q (.int (j : Nat)) H
end
section
variable {X : Cx} {W : WX} {o e f : Expr} {apos cpos : Pos} {τo τx : PTr}
def pIdx (mk : List D → D) (τo τx : PTr) : PTr := fun η R => τo η fun d _ => ∃ ns : List Int, d = mk (ns.map .int) ∧ τx η fun k _ => ∃ (z : Int) (j : Nat), k = .int z ∧ ns[j]? = some z ∧ (∀ m, m < j → ns[m]? ≠ some z) ∧ R (.int (j : Nat)) true
def pIdxO (τo τx : PTr) : PTr := fun η R => τo η fun d _ => ∃ ns : List Int, d = .ord ns ∧ τx η fun k _ => ∃ (z : Int) (j : Nat), k = .int z ∧ ns[j]? = some z ∧ (∀ m, m < j → ns[m]? ≠ some z) ∧ R (.int (j : Nat)) true
end
/-! ### max of a list -/
section
variable {X : Cx}
def maxLM : DC := fun ds R => match ds with
  | [.lst xs] => ∃ ns, toInts xs = some ns ∧ ns ≠ [] ∧ ∀ m, m ∈ ns → (∀ y ∈ ns, y ≤ m) → R (.int m) true
  | _ => False
end
/-! ### changes of a list of ints -/
section
variable {X : Cx} {W : WX} {o e f : Expr} {apos cpos : Pos} {τ τ2 : ETr}
/-- x.reverse() -/
def eRevL (i : Nat) : ETr := fun _ ρ R => ∃ c xs, ρ[i]? = some c ∧ c.mutD = some (.lst xs) ∧ immL xs = true ∧ R .non true (ρ.set i (reC c (.lst xs.reverse)))
/-- x.remove(n) -/
def eRemove (i : Nat) (τ : ETr) : ETr := fun X ρ R => (∃ c xs, ρ[i]? = some c ∧ c.data = some (.lst xs)) ∧ τ X ρ fun k o ρ1 => o = true ∧ ∃ c, ∃ ns : List Int, ∃ (z : Int) (j : Nat), k = .int z ∧ ρ1[i]? = some c ∧ c.mutD = some (.lst (ns.map .int)) ∧ ns[j]? = some z ∧ (∀ m, m < j → ns[m]? ≠ some z) ∧ R .non true (ρ1.set i (reC c (.lst ((ns.eraseIdx j).map .int))))
/-- x.insert(k, n), 0 ≤ k -/
def eInsert (i : Nat) (τ τ2 : PTr) : ETr := fun X ρ R => ∃ c, ∃ ns : List Int, ρ[i]? = some c ∧ c.mutD = some (.lst (ns.map .int)) ∧ τ ⟨ρ.map Cell.data, fun cls => X cls ρ⟩ fun dk _ => τ2 ⟨ρ.map Cell.data, fun cls => X cls ρ⟩ fun dx _ => ∃ (k z : Int), dk = .int k ∧ dx = .int z ∧ 0 ≤ k ∧ k < 2 ^ 63 ∧ ns.length < sizeLine ∧
  R .non true (ρ.set i (reC c (.lst ((ns.take k.toNat ++ [z] ++ ns.drop k.toNat).map .int))))
end
/-! ### displays of ints, the object known -/
section
variable {X : Cx} {W : WX} {es : List Expr} {pos : Pos}
def pTupO (τs : PTa) : PTr := fun η R => τs η fun ds _ => ∃ ns, ds = ns.map .int ∧ ns.length ≤ sizeLine ∧ R (.ord ns) true
def eTupO (τs : ETa) : ETr := fun X ρ R => τs X ρ fun ds ρ' => ∃ ns, ds = ns.map .int ∧ ns.length ≤ sizeLine ∧ R (.ord ns) true ρ'
end
end DL

namespace DL
open PySem PySem.Spec PyProof.Rows L2
set_option linter.all false
set_option Elab.async false
set_option maxRecDepth 100000
set_option maxHeartbeats 4000000

/-! ## D37: sorted(d), list(d), d a dict whose keys are pairs -/
def refK (k : Addr → Int × Int) : Value → Int × Int
  | .ref a => k a
  | _ => (0, 0)
section
variable {X : Cx}
def prKey (p : Int × Int) : List Key := [.inl p.1, .inl p.2]
def sortedT : DC := fun ds R => match ds with
  | [.dT kvs] => ∃ ps : List (Int × Int), kvs.map (·.1) = ps.map prKey ∧ R (.lst ((psort ps).map prD)) true
  | _ => False
end
/-! ### x[k][k2] = e, e plain, x[k] a dict -/
def sPutIx (i : Nat) (τv τk τk2 : PTr) : ESt := fun X E ρ => ∃ c d, ρ[i]? = some c ∧ c.inD = some d ∧ (∀ ts, d ≠ .tup ts) ∧ τv ⟨ρ.map Cell.data, fun cls => X cls ρ⟩ fun dv _ => dv.imm = true ∧ τk ⟨ρ.map Cell.data, fun cls => X cls ρ⟩ fun dk _ => ∃ kvs, ixK d dk = some (.dK kvs) ∧ kvs.length < sizeLine ∧
  τk2 ⟨ρ.map Cell.data, fun cls => X cls ρ⟩ fun dk2 _ => ∃ kk, dk2.key = some kk ∧ ∀ d', upIx d dk (.dK (aput kvs kk dv)) = some d' → E.nx (ρ.set i (inC c d'))
section
variable {X : Cx} {W : WX} {pos p2 p3 : Pos} {o k k2 v : Expr} {τv τk τk2 : PTr}
end
/-! ### a plain expression as a statement -/
def sDropP (τ : PTr) : ESt := fun X E ρ => τ ⟨ρ.map Cell.data, fun cls => X cls ρ⟩ fun _ _ => E.nx ρ
end DL

namespace DL
open PySem PySem.Spec PyProof.Rows L2
set_option linter.all false
set_option Elab.async false
set_option maxRecDepth 100000
set_option maxHeartbeats 4000000

/-! ## D39: tuple(reversed(t)), t a tuple -/
theorem Walks.rt {prog : Program} {w : World} {A : Around} (hh : A.handled = none) (I l : Addr) (hne : l ≠ I) (items : Array Value) (hz : items.size ≤ sizeLine) :
    Walks prog w A I [I, l] [I] items.size (fun i v => items[items.size - 1 - i]? = some v) (fun i h => i ≤ items.size ∧ RT.IsRt h I l ((items.size : Int) - 1 - (i : Int)) ∧ IsTup h l items) where
  sub := fun b hb => by simp at hb; simp [hb]
  frame := fun _ _ _ x hk => ⟨x.1, x.2.1.at fun o e => hk I (by simp) o e, let ⟨ob, g1, g2⟩ := x.2.2; ⟨ob, hk l (by simp) ob g1, g2⟩⟩
  item := fun i s Q E hi x hQ => by
    have e : (items.size : Int) - 1 - (i : Int) = ((items.size - 1 - i : Nat) : Int) := by omega
    have hit := x.2.1
    rw [e] at hit
    have hx : items[items.size - 1 - i]? = some (items[items.size - 1 - i]'(by omega)) := Array.getElem?_eq_getElem (by omega)
    refine RT.next_rt_item hit x.2.2 hx hz fun h' hit' hs' => ?_
    have e2 : ((items.size - 1 - i : Nat) : Int) - 1 = (items.size : Int) - 1 - ((i + 1 : Nat) : Int) := by omega
    rw [e2] at hit'
    exact hQ _ h' _ hx ⟨hi, hit', x.2.2.extBut hs'.extBut hne⟩ fun b o hb eo => hs'.extBut b o (fun h => hb (by simp [h])) eo
  done := fun s Q E x hQ => by
    have e : (items.size : Int) - 1 - (items.size : Int) = -1 := by omega
    have hit := x.2.1
    rw [e] at hit
    exact RT.next_rt_end hh hit fun h' he => hQ h' s.toks fun b o hb eo => he b o (fun h => hb (by simp [h])) eo
  self := fun _ _ _ _ x hQ => RT.iter_rt x.2.1 hQ
section
variable {prog : Program} {w : World} {A : Around} {E : Value → Shared → Prop} {s : Shared}
end
section
variable {X : Cx}
def tRevTup (K : PySem.W.Frag) (te : TE) : TE := fun σ H Q => te σ H fun v H1 => ∃ (a : Addr) (xs : List V), v = .ref a ∧ SqT K H1 a xs ∧ ∀ q, H1 q = none → Q (.ref q) (upd H1 q (.tup xs.reverse))
end
/-- tuple(reversed(t)), t a tuple of ints -/
def pRevTup (τ : PTr) : PTr := fun η R => τ η fun d _ => ∃ ns : List Int, d = .ord ns ∧ R (.tup (ns.reverse.map .int)) true
end DL

namespace DL
open PySem PySem.Spec PyProof.Rows L2
set_option linter.all false
set_option Elab.async false
set_option maxRecDepth 100000
set_option maxHeartbeats 4000000

/-! ## D47: instances: attributes read and written -/
/-- a class by its name -/
structure Cl (K : PySem.W.Frag) (c : Str) (C : Addr) : Prop where
  ns : PySem.W.nsIn K mainGlobals c = some (some (.ref C))
  cl : Cls K C
def fput {α : Type} (f : Str) (x : α) : List (Str × α) → List (Str × α)
  | [] => [(f, x)]
  | (g, y) :: r => if g = f then (g, x) :: r else (g, y) :: fput f x r
section
variable {K : PySem.W.Frag} {H : Hp}
end
section
variable {X : Cx} {W : WX} {e o value : Expr} {pos pos' : Pos} {c f : Str} {C : Addr} {τ : PTr}
/-- e.f, an attribute of an instance -/
def pFld (c f : Str) (τ : PTr) : PTr := fun η R => τ η fun d _ => ∃ fs x, d = .ins c fs ∧ fs.lookup f = some x ∧ R x x.imm
/-- x.f = value, x a name -/
def sAttr (i : Nat) (c f : Str) (τv : ETr) : ESt := fun X E ρ => τv X ρ fun dv ov ρ1 => ov = true ∧ ∃ cc fs, ρ1[i]? = some cc ∧ cc.mutD = some (.ins c fs) ∧ fs.length < 1000 ∧ E.nx (ρ1.set i (reC cc (.ins c (fput f dv fs))))
/-- x.f.append(e), e plain, the list's things such as cannot change -/
def eAppF (i : Nat) (c f : Str) (τ : PTr) : ETr := fun X ρ R => ∃ cc fs xs, ρ[i]? = some cc ∧ cc.inD = some (.ins c fs) ∧ fs.lookup f = some (.lst xs) ∧ immL xs = true ∧ xs.length < sizeLine ∧
  τ ⟨ρ.map Cell.data, fun cls => X cls ρ⟩ fun dx _ => dx.imm = true ∧ R .non true (ρ.set i (inC cc (.ins c (fput f (.lst (xs ++ [dx])) fs))))
/-- x.f.pop() -/
def ePopF (i : Nat) (c f : Str) : ETr := fun _ ρ R => ∃ cc fs xs d, ρ[i]? = some cc ∧ cc.inD = some (.ins c fs) ∧ fs.lookup f = some (.lst xs) ∧ immL xs = true ∧ xs.getLast? = some d ∧ R d true (ρ.set i (inC cc (.ins c (fput f (.lst xs.dropLast) fs))))
end
end DL

namespace DL
open PySem PySem.Spec PyProof.Rows L2
set_option linter.all false
set_option Elab.async false
set_option maxRecDepth 100000
set_option maxHeartbeats 4000000

/-! ## D48: methods called, instances made -/
section
variable {X : Cx} {CX : CXT} {k : Nat} {f C : Addr} {fd : FuncData} {ps : List Str} {sp : Sp} {E : L2.St → XK} {x m : Str} {p pos apos : Pos} {e o : Expr} {es : List Expr} {ta : TE} {t : TA}
def tMethS (C : Addr) (m : Str) (sp : Sp) (E : L2.St → XK) (ta : TE) (t : TA) : TE := fun σ H Q => ta σ H fun x H1 => ∃ a dx fs, x = .ref a ∧ H1 a = some (.ins C dx fs) ∧ fs.lookup m = none ∧ t σ H1 fun vs H2 => sp (x :: vs) H2 Q (E σ)
def tMakeS (C : Addr) (sp : Sp) (E : L2.St → XK) (t : TA) : TE := fun σ H Q => t σ H fun vs H1 => ∀ x dx, H1 x = none → H1 dx = none → dx ≠ x →
  sp (.ref x :: vs) (upd (upd H1 dx (.own x)) x (.ins C dx [])) (fun v H2 => v = .non ∧ Q (.ref x) H2) (E σ)
end
section
variable {X : Cx} {W : WX} {e o : Expr} {es : List Expr} {τs : ETn} {pos apos p : Pos} {c m x : Str} {C : Addr} {G : DCE} {n : Nat} {mx : DCX}
/-- x.m(..), x a name, a method that changes what it is handed -/
def eMeth (G : DCE) (n : Nat) (i : Nat) (c m : Str) (τs : ETn) : ETr := fun X ρ R => (∃ cc fs, ρ[i]? = some cc ∧ cc.data = some (.ins c fs) ∧ fs.lookup m = none) ∧ τs X ρ fun as ρ' => ∃ ds, argD (.inr i :: as) ρ' = some ds ∧ ds.length = n ∧ (argN (.inr i :: as)).Nodup ∧
  G ds (fun d fs => R d true (putF (.inr i :: as) fs ρ')) (fun cls fs => X cls (putF (.inr i :: as) fs ρ'))
/-- x.m(..), a method that changes nothing -/
def pMethX (mx : DCX) (c m : Str) (τo : PTr) (τs : PTa) : PTr := fun η R => τo η fun d _ => ∃ fs, d = .ins c fs ∧ fs.lookup m = none ∧ τs η fun ds _ => mx (d :: ds) R η.ex
end
/-! ### instances made -/
section
variable {K : PySem.W.Frag} {Kp H : Hp}
end
section
variable {X : Cx} {W : WX} {e : Expr} {es : List Expr} {τs : PTa} {pos p : Pos} {c x : Str} {C : Addr} {G : DCE} {n : Nat}
/-- C(..), a new instance, of things that cannot change -/
def eMake (G : DCE) (n : Nat) (c : Str) (τs : PTa) : ETr := fun X ρ R => τs ⟨ρ.map Cell.data, fun cls => X cls ρ⟩ fun ds _ => immL ds = true ∧ ds.length + 1 = n ∧ G (.ins c [] :: ds) (fun d fs => ∃ y rest, fs = some y :: rest ∧ d = .non ∧ R y true ρ) (fun cls _ => X cls ρ)
end
end DL

namespace DL
open PySem PySem.Spec PyProof.Rows L2
set_option linter.all false
set_option Elab.async false
set_option maxRecDepth 100000
set_option maxHeartbeats 1000000

/-! ## D51: a loop over a list of ints that was handed in -/
def sForP (i : Nat) (γ : ETg) (t : ESt) : ESt := fun X E ρ => ∃ (ns : List Int) (v : V), ρ[i]? = some (.pin (.lst (ns.map .int)) v) ∧ ns.length ≤ sizeLine ∧ ∃ I : Nat → Cells → Prop, I 0 ρ ∧
  (∀ k n ρ2, ns[k]? = some n → I k ρ2 → ρ2[i]? = some (.pin (.lst (ns.map .int)) v) ∧ γ (.int n) ρ2 fun ρ3 => t X { E with nx := I (k + 1), ct := I (k + 1), bk := E.nx } ρ3) ∧ ∀ ρ2, I ns.length ρ2 → ρ2[i]? = some (.pin (.lst (ns.map .int)) v) ∧ E.nx ρ2
section
variable {X : Cx} {W : WX} {pos : Pos}
end
/-- a slice of a named list, read behind what its bounds do -/
def eSlN (i : Nat) (tl th : ETo) : ETr := fun X ρ R => (∃ c d, ρ[i]? = some c ∧ c.data = some d) ∧ tl X ρ fun l ρ2 => th X ρ2 fun u ρ3 => ∃ c d, ρ3[i]? = some c ∧ c.data = some d ∧ slM d l u fun d2 o2 => o2 = true ∧ R d2 true ρ3
section
variable {X : Cx} {W : WX} {e : Expr} {lo hi : Option Expr} {tl th : ETo} {pos p2 : Pos}
theorem e_sliceN {i : Nat} (he : PE X e (tVar i)) (hlo : DEO X W lo tl) (hhi : DEO X W hi th) : DE X W (.Subscript e (.Slice lo hi none p2) pos) (eSlN i tl th) := PE.weak (pe_slice d_slice he hlo hhi) fun σ H Q q => by
  obtain ⟨Kp, ρ, ts, vs, X, R, hl, s, x, ⟨⟨c, d0, ec, ed⟩, h⟩, q⟩ := q
  have ht := s.lenT hl
  have hi0 := (List.getElem?_eq_some_iff.mp ec).1
  obtain ⟨v0, _, e0, _⟩ := s.rep (i := i) (by rw [List.getElem?_append_left hi0]; exact ec) ed
  rw [List.getElem?_append_left (hl ▸ hi0)] at e0
  refine ⟨v0, e0, Kp, ρ, ts, vs, X, _, hl, s, x, h, fun l ρ2 H2 K2 hc sm2 s2 => ?_⟩
  have hl2 := s2.lenR0 ht
  refine ⟨K2, ρ2, ts, vs, X, _, hl2, s2, fun cls ρ' H' Kp' hx sm s' => x cls ρ' H' Kp' hx (sm2.trans sm) s', hc, fun u ρ3 H3 K3 hd sm3 s3 => ?_⟩
  have hl3 := s3.lenR0 ht
  obtain ⟨c3, d3, ec3, ed3, hd⟩ := hd
  have hi3 := (List.getElem?_eq_some_iff.mp ec3).1
  obtain ⟨v1, g1, e1, r1⟩ := s3.rep (i := i) (by rw [List.getElem?_append_left hi3]; exact ec3) ed3
  rw [List.getElem?_append_left (hl3 ▸ hi3), e0] at e1
  cases e1
  refine ⟨d3, g1, _, r1, hd, fun d2 o2 v H' hr s4 rs => ?_⟩
  obtain ⟨rfl, hr⟩ := hr
  obtain ⟨f, fr⟩ := rs
  exact q _ true _ _ _ K3 hr (sm2.trans sm3) (s3.pushS s4 fr)
end
end DL

namespace DL
open PySem PySem.Spec PyProof.Rows L2 PySem.W
set_option linter.all false
set_option Elab.async false
set_option maxRecDepth 100000
set_option maxHeartbeats 1000000

/-! ## D61: min, max of a tuple of ints -/
theorem reads_intsT {h : Heap} : ∀ {us : List Value} {ns : List Int}, IntsAre us ns → ReadsAll h us (ns.map PyData.int) []
  | _, _, .nil => .nil
  | _, _, .cons n k t => ReadsAll.cons (as := []) (.int n k) (reads_intsT t)
theorem alike_intsT (ns : List Int) : AlikeAll (ns.map PyData.int) := ⟨fun x hx y hy => by
  obtain ⟨a, _, rfl⟩ := List.mem_map.mp hx
  obtain ⟨b, _, rfl⟩ := List.mem_map.mp hy
  rfl, fun x hx e => by
  obtain ⟨a, _, rfl⟩ := List.mem_map.mp hx
  cases e⟩
theorem depth_intsT : ∀ ns : List Int, PyData.depthAll (ns.map PyData.int) = 0
  | [] => rfl
  | n :: ns => by rw [List.map_cons, PyData.depthAll, depth_intsT ns]; rfl
theorem fold_min : ∀ (ns : List Int) (n : Int), ns.foldl min n ∈ n :: ns ∧ ∀ y ∈ n :: ns, ns.foldl min n ≤ y
  | [], n => by simp
  | a :: ns, n => by
    rw [List.foldl_cons]
    obtain ⟨h1, h2⟩ := fold_min ns (min n a)
    have h3 := h2 (min n a) (by simp)
    refine ⟨?_, fun y hy => ?_⟩
    · rcases List.mem_cons.mp h1 with e | h
      · rw [e]
        by_cases z : n ≤ a
        · rw [Int.min_eq_left z]; simp
        · rw [Int.min_eq_right (by omega)]; simp
      · simp [h]
    · rcases List.mem_cons.mp hy with rfl | hy
      · exact Int.le_trans h3 (Int.min_le_left _ _)
      · rcases List.mem_cons.mp hy with rfl | hy
        · exact Int.le_trans h3 (Int.min_le_right _ _)
        · exact h2 y (by simp [hy])
theorem fold_max : ∀ (ns : List Int) (n : Int), ns.foldl max n ∈ n :: ns ∧ ∀ y ∈ n :: ns, y ≤ ns.foldl max n
  | [], n => by simp
  | a :: ns, n => by
    rw [List.foldl_cons]
    obtain ⟨h1, h2⟩ := fold_max ns (max n a)
    have h3 := h2 (max n a) (by simp)
    refine ⟨?_, fun y hy => ?_⟩
    · rcases List.mem_cons.mp h1 with e | h
      · rw [e]
        by_cases z : n ≤ a
        · rw [Int.max_eq_right z]; simp
        · rw [Int.max_eq_left (by omega)]; simp
      · simp [h]
    · rcases List.mem_cons.mp hy with rfl | hy
      · exact Int.le_trans (Int.le_max_left _ _) h3
      · rcases List.mem_cons.mp hy with rfl | hy
        · exact Int.le_trans (Int.le_max_right _ _) h3
        · exact h2 y (by simp [hy])
section
variable {X : Cx}
def rMinT (K : PySem.W.Frag) : List V → Hp → VK → Prop := fun vs H Q => ∃ (a : Addr) (ns : List Int), vs = [V.ref a] ∧ SqT K H a (ns.map V.int) ∧ ns ≠ [] ∧ ∀ m, m ∈ ns → (∀ y, y ∈ ns → m ≤ y) → Q (.int m) H
def rMaxT (K : PySem.W.Frag) : List V → Hp → VK → Prop := fun vs H Q => ∃ (a : Addr) (ns : List Int), vs = [V.ref a] ∧ SqT K H a (ns.map V.int) ∧ ns ≠ [] ∧ ∀ m, m ∈ ns → (∀ y, y ∈ ns → y ≤ m) → Q (.int m) H
theorem cr_minT (hu : X.A.units + 65 < cLine) (hc : X.calm = true) : CallR X (.builtin "min") (rMinT X.K) := by
  intro pins s σ H vs us Q I r h
  obtain ⟨a, ns, rfl, hs, hne, q⟩ := h
  obtain ⟨its, rv, hl, _⟩ := I.tuple hs
  rw [Vals.ref1 r]
  cases ns with
  | nil => exact absurd rfl hne
  | cons n ns =>
    have hl' : s.heap.IsTuple a its.toArray := hl
    have hr : ReadsAll s.heap its.toArray.toList (PyData.int n :: ns.map PyData.int) [] := by simpa using reads_intsT (h := s.heap) (Vals.ints rv)
    refine min_tuple_data (I.ok.hd hc) hl' hr (alike_intsT (n :: ns)) (by rw [show PyData.int n :: ns.map PyData.int = (n :: ns).map PyData.int from rfl, depth_intsT]; omega) fun i v h' tk bs hi hv hk => ?_
    rw [minD_ints] at hv
    generalize hz : PyData.int (ns.foldl min n) = z at hv
    cases hv <;> cases hz
    obtain ⟨h1, h2⟩ := fold_min ns n
    exact ⟨.int _, H, I.kept hk, ⟨_, rfl⟩, q _ h1 h2⟩
theorem cr_maxT (hu : X.A.units + 65 < cLine) (hc : X.calm = true) : CallR X (.builtin "max") (rMaxT X.K) := by
  intro pins s σ H vs us Q I r h
  obtain ⟨a, ns, rfl, hs, hne, q⟩ := h
  obtain ⟨its, rv, hl, _⟩ := I.tuple hs
  rw [Vals.ref1 r]
  cases ns with
  | nil => exact absurd rfl hne
  | cons n ns =>
    have hl' : s.heap.IsTuple a its.toArray := hl
    have hr : ReadsAll s.heap its.toArray.toList (PyData.int n :: ns.map PyData.int) [] := by simpa using reads_intsT (h := s.heap) (Vals.ints rv)
    refine max_tuple_data (I.ok.hd hc) hl' hr (alike_intsT (n :: ns)) (by rw [show PyData.int n :: ns.map PyData.int = (n :: ns).map PyData.int from rfl, depth_intsT]; omega) fun i v h' tk bs hi hv hk => ?_
    rw [maxD_ints] at hv
    generalize hz : PyData.int (ns.foldl max n) = z at hv
    cases hv <;> cases hz
    obtain ⟨h1, h2⟩ := fold_max ns n
    exact ⟨.int _, H, I.kept hk, ⟨_, rfl⟩, q _ h1 h2⟩
def minTM : DC := fun ds R => match ds with
  | [.tup xs] => ∃ ns, toInts xs = some ns ∧ ns ≠ [] ∧ ∀ m, m ∈ ns → (∀ y ∈ ns, m ≤ y) → R (.int m) true
  | [.ord ns] => ns ≠ [] ∧ ∀ m, m ∈ ns → (∀ y ∈ ns, m ≤ y) → R (.int m) true
  | _ => False
def maxTM : DC := fun ds R => match ds with
  | [.tup xs] => ∃ ns, toInts xs = some ns ∧ ns ≠ [] ∧ ∀ m, m ∈ ns → (∀ y ∈ ns, y ≤ m) → R (.int m) true
  | [.ord ns] => ns ≠ [] ∧ ∀ m, m ∈ ns → (∀ y ∈ ns, y ≤ m) → R (.int m) true
  | _ => False
theorem d_minT (hu : X.A.units + 65 < cLine) (hc : X.calm = true) : DCall X (.builtin "min") minTM := by
  refine CallR.weak (cr_minT hu hc) fun xs H Q q => ?_
  obtain ⟨ds, fs, R, ra, ho, q⟩ := q
  unfold minTM at ho
  split at ho
  · obtain ⟨v, rfl, r⟩ := ra.one_inv
    obtain ⟨ns, e, hne, hr⟩ := ho
    obtain ⟨l, rfl, hl⟩ := rep_tupInts r e
    exact ⟨l, ns, rfl, .of hl, hne, fun m h1 h2 => q _ _ _ _ (hr m h1 h2) (Same.refl H) ⟨[], Fresh.imm rfl (.int _)⟩⟩
  · obtain ⟨v, rfl, r⟩ := ra.one_inv
    obtain ⟨hne, hr⟩ := ho
    obtain ⟨l, ob, rfl, hl, _⟩ := r.ord_inv
    exact ⟨l, _, rfl, sqT_frz hl, hne, fun m h1 h2 => q _ _ _ _ (hr m h1 h2) (Same.refl H) ⟨[], Fresh.imm rfl (.int _)⟩⟩
  · exact ho.elim
theorem d_maxT (hu : X.A.units + 65 < cLine) (hc : X.calm = true) : DCall X (.builtin "max") maxTM := by
  refine CallR.weak (cr_maxT hu hc) fun xs H Q q => ?_
  obtain ⟨ds, fs, R, ra, ho, q⟩ := q
  unfold maxTM at ho
  split at ho
  · obtain ⟨v, rfl, r⟩ := ra.one_inv
    obtain ⟨ns, e, hne, hr⟩ := ho
    obtain ⟨l, rfl, hl⟩ := rep_tupInts r e
    exact ⟨l, ns, rfl, .of hl, hne, fun m h1 h2 => q _ _ _ _ (hr m h1 h2) (Same.refl H) ⟨[], Fresh.imm rfl (.int _)⟩⟩
  · obtain ⟨v, rfl, r⟩ := ra.one_inv
    obtain ⟨hne, hr⟩ := ho
    obtain ⟨l, ob, rfl, hl, _⟩ := r.ord_inv
    exact ⟨l, _, rfl, sqT_frz hl, hne, fun m h1 h2 => q _ _ _ _ (hr m h1 h2) (Same.refl H) ⟨[], Fresh.imm rfl (.int _)⟩⟩
  · exact ho.elim
end
end DL

namespace DL
open PySem PySem.Spec PyProof.Rows L2
set_option linter.all false
set_option Elab.async false
set_option maxRecDepth 100000
set_option maxHeartbeats 1000000

/-! ## D68: several clauses, among them except (A, B); try: .. except (A, B): name = 'text' except C: name = 'text' -/
inductive Cls1 where
  | one (c : Value)
  | two (c1 c2 : Value)
def Cls1.hit (K : PySem.W.Frag) (cls : Value) : Cls1 → Option Bool
  | .one c => PySem.W.exmOne K cls c
  | .two c1 c2 => PySem.W.exmAny K cls [c1, c2]
def wHs (K : PySem.W.Frag) (Wo : WX) (D : Ends) : List (Cls1 × (Addr → Value → Option Addr → TS)) → WX
  | [] => Wo
  | (c, ts) :: r => fun cls d σ H => ∃ b, c.hit K cls = some b ∧ (b = true → ∀ a, H a = none → ts a cls d D σ H) ∧ (b = false → wHs K Wo D r cls d σ H)
inductive Test (X : Cx) : Expr → Cls1 → Prop
  | one {x : Str} {c : Value} {np : Pos} (hc : Names X x c) : Test X (.Name x np) (.one c)
  | two {x1 x2 : Str} {c1 c2 : Value} {p1 p2 tp : Pos} {kk : Nat} (h1 : Names X x1 c1) (h2 : Names X x2 c2) : Test X (.Tuple [.Name x1 p1, .Name x2 p2] kk tp) (.two c1 c2)
inductive HsOk (X : Cx) : List ExceptHandler → List (Cls1 × (Addr → Value → Option Addr → TS)) → Prop
  | nil : HsOk X [] []
  | cons {t : Expr} {c : Cls1} {ts : Addr → Value → Option Addr → TS} {b₀ : Stmt} {suite : List Stmt} {pos' : Pos} {hds : List ExceptHandler} {l : List (Cls1 × (Addr → Value → Option Addr → TS))} (ht : Test X t c)
      (hsu : ∀ (a : Addr) (oe : Obj) (cls : Value) (d : Option Addr) (pn : List (Addr × Obj)), Zc cls d oe → (∃ vs, oe.data = .fields vs) →
        PSs (X.suite a ((a, oe) :: pn)) (b₀ :: suite) (ts a cls d)) (r : HsOk X hds l) :
      HsOk X (.ExceptHandler (some t) none (b₀ :: suite) pos' :: hds) ((c, ts) :: l)
section
variable {X : Cx} {body : List Stmt} {h₀ : ExceptHandler} {hds : List ExceptHandler} {l : List (Cls1 × (Addr → Value → Option Addr → TS))} {pos : Pos} {tb : WX → TS} {Wo : WX}
end
def sTryS2 (j : Nat) (x1 x2 x3 t t' : Str) (ns : List Str) (τ : ESt) : ESt := fun X E ρ => j < ρ.length ∧
  τ (fun cls ρ' => ρ'.length = ρ.length ∧ ∃ n, n ∈ ns ∧ cls = errV n ∧ if n = x1 ∨ n = x2 then E.nx (ρ'.set j (.own (.str t))) else if n = x3 then E.nx (ρ'.set j (.own (.str t'))) else X cls ρ') E ρ
section
variable {X : Cx} {W : WX} {body : List Stmt} {τ : ESt} {x1 x2 x3 y t t' : Str} {np1 np2 np3 tp py py' cp cp' sp sp' pos pos' pos2 : Pos} {j k k' kk : Nat} {ns : List Str}
end
end DL

namespace DL
open PySem PySem.Spec PyProof.Rows L2
set_option linter.all false
set_option Elab.async false
set_option maxRecDepth 100000
set_option maxHeartbeats 4000000

/-- a lambda of one argument, with one name of the def around; no builtin's name in it -/
structure LamI (sc scope : Scope) (a d : Str) : Prop where
  kind : scope.kind = .function
  co : scope.isCoroutine = false
  gen : scope.isGenerator = false
  nocell : ∀ y ∈ scope.names, y.2 ≠ .cell
  arg : scope.names.lookup a = some .local
  dic : scope.names.lookup d = some .free
  here : sc.names.lookup d = some .cell
  free : ∀ y ∈ scope.names, y.2 = .free → sc.names.lookup y.1 = some .cell ∨ sc.names.lookup y.1 = some .free
def lamIB (sc scope : Scope) (a d : Str) : Bool :=
  decide (scope.kind = .function) && !scope.isCoroutine && !scope.isGenerator && (scope.names.all fun y => !decide (y.2 = .cell)) && decide (scope.names.lookup a = some .local) &&
    decide (scope.names.lookup d = some .free) && decide (sc.names.lookup d = some .cell) && scope.names.all fun y => !decide (y.2 = .free) || decide (sc.names.lookup y.1 = some .cell) || decide (sc.names.lookup y.1 = some .free)
theorem LamI.has {X : Cx} {scope : Scope} {a d : Str} (L : LamI X.env.scope scope a d) (ok : X.Ok) : ∀ y ∈ scope.names, y.2 = .free → ∃ c, X.env.cells.lookup y.1 = some c := fun y hy e => by
  rcases L.free y hy e with k | k
  · exact ok.has _ (.inl k)
  · exact ok.has _ (.inr k)
/-! ## D71: sorted(xs, key=lambda a: t.index(a)), t a tuple of the def around -/
section
variable {X : Cx} {pins : List (Addr × Obj)} {σ : L2.St} {H : Hp} {s : Shared}
end
def pSortIdx (i : Nat) (τ : PTr) : PTr := fun η R => τ η fun d _ => ∃ (low ns : List Int), η.v[i]? = some (some (.ord low)) ∧ d = .lst (ns.map .int) ∧ (∀ n ∈ ns, n ∈ low) ∧ R (.lst ((ksort (fun n => low.idxOf n) ns).map .int)) true
section
variable {X : Cx} {W : WX} {e : Expr} {τ : PTr} {pos p kpos lpos p1 p2 p3 p4 : Pos}
end
end DL

namespace DL
open PySem PySem.Spec PyProof.Rows L2
set_option linter.all false
set_option Elab.async false
set_option maxRecDepth 100000
set_option maxHeartbeats 4000000

/-! ## D74: e != xs * k, the things of xs changeable -/
theorem DpAll.app {K : PySem.W.Frag} {H : Hp} : ∀ {vs ws : List V} {ps qs : List PyData}, DpAll K H vs ps → DpAll K H ws qs → DpAll K H (vs ++ ws) (ps ++ qs)
  | _, _, _, _, .nil, b => b
  | _, _, _, _, .cons h t, b => .cons h (DpAll.app t b)
def pNeRep (τa τb : PTr) (k : Int) : PTr := fun η R => τa η fun da _ => τb η fun db _ => ∃ xs, db = .lst xs ∧ -(2 ^ 63) ≤ k ∧ k < 2 ^ 63 ∧ xs.length * k.toNat ≤ sizeLine ∧ da.shp 9 = true ∧ (D.lst (List.replicate k.toNat xs).flatten).shp 9 = true ∧ R (.bl (!da.eqv (.lst (List.replicate k.toNat xs).flatten))) true
end DL

namespace DL
open PySem PySem.Spec PyProof.Rows L2
set_option linter.all false
set_option Elab.async false
set_option maxRecDepth 100000
set_option maxHeartbeats 4000000

/-! ## D78: instances made of things that change; an attribute of an instance that is made and let go -/
theorem Mix.app {σ τ : L2.St} : ∀ {as : List Arg} {us all : List V}, Mix σ as us all → Mix (σ ++ τ) as us all
  | _, _, _, .nil => .nil
  | _, _, _, .val h => .val h.app
  | _, _, _, .nm e h => .nm (by rw [List.getElem?_append_left (List.getElem?_eq_some_iff.mp e).1]; exact e) h.app
section
variable {X : Cx} {W : WX} {e : Expr} {es : List Expr} {τs : ETn} {pos p : Pos} {c x : Str} {C : Addr} {G : DCE} {n : Nat}
/-- C(..), a new instance, of things of one's own -/
def eMakeX (G : DCE) (n : Nat) (c : Str) (τs : ETn) : ETr := fun X ρ R => τs X ρ fun as ρ' => ∃ ds, argD as ρ' = some ds ∧ ds.length + 1 = n ∧ (argN as).Nodup ∧
  G (.ins c [] :: ds) (fun d fs => ∃ y rest, fs = some y :: rest ∧ d = .non ∧ R y true (putF as rest ρ')) (fun cls fs => X cls (putF as fs.tail ρ'))
end
end DL

namespace DL
open PySem PySem.Spec PyProof.Rows L2
set_option linter.all false
set_option Elab.async false
set_option maxRecDepth 100000
set_option maxHeartbeats 4000000

/-! ## D79: dict(d), d a dict with pairs of small numbers as keys: its keys hash apart -/
def trieB : Nat → List Nat → Bool
  | 0, l => decide (l.length ≤ 1)
  | k + 1, l => decide (l.length ≤ 1) || (trieB k (l.filter fun x => x.testBit k) && trieB k (l.filter fun x => !x.testBit k))
def hash2 (a b : Int) : Int := reduceHash (Builtin.Tuple.tupleHashOf [hashInt a, hashInt b])
def hashAll : List Nat := (List.range 4096).map fun i => (hash2 ((i / 64 : Nat) : Int) ((i % 64 : Nat) : Int) + 2 ^ 63).toNat
set_option maxHeartbeats 0 in
theorem hashAll_ok : trieB 64 hashAll = true := by decide +kernel
def SmallP (p : Int × Int) : Prop := (0 ≤ p.1 ∧ p.1 < 64) ∧ (0 ≤ p.2 ∧ p.2 < 64)
section
variable {prog : Program} {w : World} {A : Around} {E : Value → Shared → Prop} {s : Shared}
end
end DL

namespace DL
open PySem PySem.Spec PyProof.Rows L2
set_option linter.all false
set_option Elab.async false
set_option maxRecDepth 100000
set_option maxHeartbeats 4000000

/-! ## D80: dict(d), the rule; Flow(..).found; sorted(tuples told) -/
section
variable {K : PySem.W.Frag} {Kp H : Hp} {ρ : Cells} {σ : L2.St}
theorem S.part {d d' : D} {v v' : V} (s : S K Kp H (ρ ++ [.own d]) (σ ++ [some v])) (hl : ρ.length = σ.length) (h : ∀ fp, Rep K H d v fp → ∃ f', Rep K H d' v' f' ∧ f'.Sublist fp) : S K Kp H (ρ ++ [.own d']) (σ ++ [some v']) := by
  obtain ⟨fp, s⟩ := s
  obtain ⟨u, eu, ⟨w, ew, r⟩, mu⟩ := s.cell ρ.length (.own d) (by simp)
  subst ew
  rw [hl] at eu
  simp at eu
  subst eu
  obtain ⟨f', r', sub⟩ := h _ r
  let fp' : Nat → List Addr := fun j => if j = ρ.length then f' else fp j
  have p1 : fp' ρ.length = f' := if_pos rfl
  have p2 : ∀ j, j ≠ ρ.length → fp' j = fp j := fun j h => if_neg h
  have ps : ∀ j b, b ∈ fp' j → b ∈ fp j := fun j b m => by
    by_cases hj : j = ρ.length
    · subst hj; rw [p1] at m; exact sub.subset m
    · rw [p2 j hj] at m; exact m
  refine ⟨fp', ⟨by simp [hl], fun j c e => ?_, fun j e => ?_, fun j => ?_, fun i j b h1 h2 => s.dj i j b (ps i b h1) (ps j b h2), fun j b m => s.kp j b (ps j b m), s.sub⟩⟩
  · by_cases hj : j = ρ.length
    · subst hj
      simp at e
      subst e
      refine ⟨some v', by rw [hl]; simp, ?_⟩
      rw [p1]
      exact ⟨⟨v', rfl, r'⟩, fun b m => mu b (sub.subset m)⟩
    · have hj2 : j < ρ.length := by have := (List.getElem?_eq_some_iff.mp e).1; simp at this; omega
      rw [List.getElem?_append_left hj2] at e
      obtain ⟨u, eu, q⟩ := s.cell j c (by rw [List.getElem?_append_left hj2]; exact e)
      rw [p2 j hj]
      refine ⟨u, ?_, q⟩
      rw [List.getElem?_append_left (hl ▸ hj2)] at eu ⊢
      exact eu
  · have hj : ρ.length + 1 ≤ j := by simpa using List.getElem?_eq_none_iff.mp e
    rw [p2 j (by omega)]
    exact s.out j (List.getElem?_eq_none (by simp; omega))
  · by_cases hj : j = ρ.length
    · subst hj; rw [p1]; exact (s.nd ρ.length).sublist sub
    · rw [p2 j hj]; exact s.nd j
end
section
variable {X : Cx} {W : WX} {e : Expr} {pos : Pos} {c f : Str} {C : Addr} {τ : ETr}
/-- e.f, e an instance of one's own that is let go -/
def eFldT (c f : Str) (τ : ETr) : ETr := fun X ρ R => τ X ρ fun d o ρ1 => o = true ∧ ∃ fs x, d = .ins c fs ∧ fs.lookup f = some x ∧ R x true ρ1
end
/-! ### dict(d) -/
section DP
end DP
def prI (q : (Int × Int) × Int) : List L2.Key × D := (prKey q.1, .int q.2)
def dictTM : DC := fun ds R => match ds with
  | [.dT kvs] => ∃ L : List ((Int × Int) × Int), kvs = L.map prI ∧ (∀ q ∈ L, SmallP q.1) ∧ R (.dT (L.map prI)) true
  | _ => False
section
variable {X : Cx}
end
/-! ### sorted(xs), xs a list of tuples told -/
def oQ (q : Int × List Int) : List Int := q.1 :: q.2
def oE (o : Int × List Int) : PyData := .tuple (.int o.1 :: o.2.map .int)
def osort (l : List (Int × List Int)) : List (Int × List Int) := l.mergeSort (PySem.W.dataLe false oE)
def oD2 (q : Int × List Int) : D := .ord (q.1 :: q.2)
section
variable {K : PySem.W.Frag} {H : Hp}
end
def sortedOM : DC := fun ds R => match ds with
  | [.lst xs] => ∃ ps, xs = ps.map oD2 ∧ R (.lst ((osort ps).map oD2)) true
  | _ => False
end DL

namespace DL
open PySem PySem.Spec PyProof.Rows L2
set_option linter.all false
set_option Elab.async false
set_option maxRecDepth 100000
set_option maxHeartbeats 4000000

/-! ## D85: name = [e for ..], the members lists of ints that live elsewhere, some twice; kept from then on -/
section
variable {K : PySem.W.Frag} {Kp H : Hp} {ρ : Cells} {σ : L2.St}
/-- nothing that can change -/
def Cell.calm : Cell → Bool
  | .no => true
  | .own d => d.imm
  | .ro _ _ => true
  | _ => false
end
abbrev lsU (ns : List Int) : D := .lst (ns.map .int)
end DL

namespace DL
open PySem PySem.Spec PyProof.Rows L2
set_option linter.all false
set_option Elab.async false
set_option maxRecDepth 100000
set_option maxHeartbeats 4000000

/-! ## D93: one pair at most another -/
theorem lexAt_two (e r : Nat → Bool) (f : Bool) : Ob.lexAt e r f 0 2 = if e 0 = true then (if e 1 = true then f else r 1) else r 0 := by
  simp [Ob.lexAt]
section
variable {X : Cx}
def leTM : DM := fun a b R => match a, b with
  | .tup x, .tup y => ∃ i j k l : Int, x = [.int i, .int j] ∧ y = [.int k, .int l] ∧ R (.bl (decide (i < k ∨ (i = k ∧ j ≤ l)))) true
  | _, _ => False
theorem d_leT (hu : X.A.units + 65 < cLine) : DOp X (compareOp .LtE) leTM := by
  refine OpR.weak (op_leT (by omega)) fun x y H Q q => ?_
  obtain ⟨da, db, fa, fb, R, ra, rb, ho, q⟩ := q
  unfold leTM at ho
  split at ho
  · obtain ⟨i, j, k, l, rfl, rfl, hr⟩ := ho
    obtain ⟨a, rfl, ha⟩ := rep_tupInts ra (ns := [i, j]) rfl
    obtain ⟨b, rfl, hb⟩ := rep_tupInts rb (ns := [k, l]) rfl
    refine ⟨a, b, [i, j], [k, l], rfl, rfl, .of ha, .of hb, ?_⟩
    have e : Ob.lexAt (fun n => decide (([i, j] : List Int).getD n 0 = ([k, l] : List Int).getD n 0)) (fun n => decide (([i, j] : List Int).getD n 0 ≤ ([k, l] : List Int).getD n 0)) (decide (([i, j] : List Int).length ≤ ([k, l] : List Int).length)) 0 (min ([i, j] : List Int).length ([k, l] : List Int).length) = decide (i < k ∨ (i = k ∧ j ≤ l)) := by
      rw [show min ([i, j] : List Int).length ([k, l] : List Int).length = 2 from rfl, lexAt_two]
      simp only [List.getD_cons_zero, List.getD_cons_succ, decide_eq_true_eq, List.length_cons, List.length_nil]
      by_cases h1 : i = k
      · by_cases h2 : j = l
        · simp [h1, h2]
        · simp [h1, h2]
      · have : (i ≤ k) ↔ (i < k) := by omega
        simp [h1, this]
    rw [e]
    exact q _ _ _ _ hr (Same.refl H) ⟨[], Fresh.imm rfl (.bl _)⟩
  · exact ho.elim
end
end DL

namespace DL
open PySem PySem.Spec PyProof.Rows L2
set_option linter.all false
set_option Elab.async false
set_option maxRecDepth 100000
set_option maxHeartbeats 4000000

/-! ## D97: a dict of the module asked by get, a tuple of texts of the module asked by in, isinstance of own classes -/
/-- a dict of the module: texts to numbers -/
structure KTab (K : PySem.W.Frag) (w : World) (a : Addr) (tbl : List (Str × Int)) : Prop where
  dw : ∃ es n, KDict K w a es n
  at_ : ∀ p ∈ tbl, ∃ t, PySem.W.nsIn K a p.1 = some (some (.int p.2 t))
section
variable {X : Cx} {W : WX} {o e f : Expr} {xn : Str} {a : Addr} {p apos cpos : Pos} {ty tx : TE} {es : Array DictEntry} {n : Nat}
def tKGet2 (K : PySem.W.Frag) (a : Addr) (ty tx : TE) : TE := fun σ H Q => ty σ H fun y H2 => tx σ H2 fun z H3 => ∃ (k : Str) (r : Option Value) (v : V), y = .str k ∧ PySem.W.nsIn K a k = some r ∧ (∀ u, RelV z u → RelV v (r.getD u)) ∧ Q v H3
def pKGet (tbl : List (Str × Int)) (τ : PTr) : PTr := fun η R => τ η fun d _ => ∃ k n, d = .str k ∧ (k, n) ∈ tbl ∧ R (.int n) true
/-- a tuple of texts of the module -/
def KTx (K : PySem.W.Frag) (a : Addr) (ss : List Str) : Prop := SqT K (fun _ => none) a (ss.map V.str)
theorem KTx.at {K : PySem.W.Frag} {a : Addr} {ss : List Str} (h : KTx K a ss) (H : Hp) : SqT K H a (ss.map V.str) := by
  rcases h with h | h
  · rcases h with h | ⟨_, h⟩ <;> cases h
  · exact .inr h
def pInT (neg : Bool) (ss : List Str) (τ : PTr) : PTr := fun η R => τ η fun d _ => ∃ k, d = .str k ∧ PyData.strOk k = true ∧ R (.bl (xor neg (ss.contains k))) true
end
end DL

namespace DL
open PySem PySem.Spec PyProof.Rows L2
set_option linter.all false
set_option Elab.async false
set_option maxRecDepth 100000
set_option maxHeartbeats 4000000

/-! ## D98: isinstance(x, C), x an instance of one of some own classes -/
structure IsOwn (K : PySem.W.Frag) (C2 : Addr) (tbl : List (Str × Bool)) : Prop where
  at_ : ∀ p ∈ tbl, ∃ C, Cl K p.1 C ∧ PySem.W.findIn K (.ref C) "__class__" = some (some (.builtin "object.__class__")) ∧ PySem.W.specialIn K (.builtin "object.__class__") "__get__" = some (some (.builtin "getset_descriptor.__get__")) ∧
    PySem.W.takesIn K (.builtin "object.__class__") = some true ∧ PySem.W.mroIn K C (.type "object") = some true ∧ PySem.W.kitOne K (.ref C) (.ref C2) = some p.2
section
variable {X : Cx} {W : WX} {e : Expr} {xc : Str} {C2 : Addr} {p pc pos : Pos} {τ : PTr}
def pIsiC (tbl : List (Str × Bool)) (τ : PTr) : PTr := fun η R => τ η fun d _ => ∃ c fs b, d = .ins c fs ∧ (c, b) ∈ tbl ∧ R (.bl b) true
end
end DL

namespace DL
open PySem PySem.Spec PyProof.Rows L2
set_option linter.all false
set_option Elab.async false
set_option maxRecDepth 100000
set_option maxHeartbeats 4000000

/-! ## D101: how the head shows a dict and a tuple of the module, and the own classes' isinstance -/
def tabB (K : PySem.W.Frag) (a : Addr) (tbl : List (Str × Int)) : Bool := tbl.all fun p => match PySem.W.nsIn K a p.1 with
  | some (some (.int i _)) => decide (i = p.2)
  | _ => false
theorem KTab.of {K : PySem.W.Frag} {w : World} {a : Addr} {tbl : List (Str × Int)} (h : He.dicW K a = some (He.keysIn w.params (tbl.map (·.1)))) (e : tabB K a tbl = true) : KTab K w a tbl := by
  refine ⟨He.dicW_ok h, fun p hp => ?_⟩
  have := List.all_eq_true.mp e p hp
  split at this
  · rename_i i t hn
    rw [hn, of_decide_eq_true this]
    exact ⟨_, rfl⟩
  · cases this
def strsB : List Value → List Str → Bool
  | [], [] => true
  | .str x _ :: r, y :: t => decide (x = y) && strsB r t
  | _, _ => false
theorem strsB_ok : ∀ {vs : List Value} {ss : List Str}, strsB vs ss = true → Vals (ss.map V.str) vs
  | [], [], _ => .nil
  | .str x t :: r, y :: q, h => by
    simp only [strsB, Bool.and_eq_true, decide_eq_true_eq] at h
    obtain ⟨rfl, h⟩ := h
    exact .cons ⟨t, rfl⟩ (strsB_ok h)
def ktxB (K : PySem.W.Frag) (a : Addr) (ss : List Str) : Bool := match K.lookup a with
  | some ⟨.type c, _, .seq its _, _⟩ => decide (c = "tuple") && (decide (its.size ≤ 64) && strsB its.toList ss)
  | _ => false
theorem KTx.of {K : PySem.W.Frag} {a : Addr} {ss : List Str} (h : ktxB K a ss = true) : KTx K a ss := by
  unfold ktxB at h
  split at h
  · rename_i c d its n sl hl
    simp only [Bool.and_eq_true, decide_eq_true_eq] at h
    obtain ⟨rfl, h1, h2⟩ := h
    exact .inr ⟨_, its, n, hl, rfl, rfl, by rw [sizeLine_eq]; omega, strsB_ok h2⟩
  · cases h
def ownB (K : PySem.W.Frag) (C C2 : Addr) (b : Bool) : Bool := decide (PySem.W.findIn K (.ref C) "__class__" = some (some (.builtin "object.__class__"))) && decide (PySem.W.specialIn K (.builtin "object.__class__") "__get__" = some (some (.builtin "getset_descriptor.__get__")))
  && decide (PySem.W.takesIn K (.builtin "object.__class__") = some true) && decide (PySem.W.mroIn K C (.type "object") = some true) && decide (PySem.W.kitOne K (.ref C) (.ref C2) = some b)
end DL

namespace DL
open PySem PySem.Spec PyProof.Rows L2
set_option linter.all false
set_option Elab.async false
set_option maxRecDepth 100000
set_option maxHeartbeats 4000000

/-! ## D102: a list that is never written again: it may stand at many places -/
section
variable {X : Cx} {pins : List (Addr × Obj)} {σ : L2.St} {H : Hp} {s : Shared}
theorem Inv_frzL (I : Inv X pins σ H s) {a : Addr} {vs : List V} (h : H a = some (.lst vs)) : ∃ o, Inv X pins σ (upd H a (.frz o (.lst vs))) s := by
  obtain ⟨z, its, n, r, eo⟩ := (show ObjOk X.prog X.w H s.heap a (.lst vs) from I.hok a _ h)
  refine ⟨{ cls := .type "list", data := .seq its.toArray n }, ?_⟩
  have ne : ∀ b (u : HO), H b = some u → u ≠ .lst vs → b ≠ a := fun b u e1 n z => by rw [z, h] at e1; exact n (Option.some.inj e1).symm
  refine I.step (h' := s.heap) (g' := s.gens) (t' := s.toks) (d' := s.drawn) (ch := []) (fun _ z => nomatch z) (fun b o _ _ _ e _ => e) (fun b o _ _ _ e _ => ⟨o.slots, e⟩) (fun b o _ _ e4 => ?_) (fun b o _ e => ⟨o, e⟩) (fun b xs e => ?_) (fun b o u e => ?_) (fun b ps e => ⟨#[], ?_⟩) (fun m hm => hm) (fun b u e => ?_) I.bare
  · rw [upd_ne (fun z => by rw [z, h] at e4; cases e4)]; exact e4
  · rw [upd_ne (ne b _ e (by intro z; cases z))]; exact e
  · rw [upd_ne (ne b _ e (by intro z; cases z))]; exact e
  · rw [upd_ne (ne b _ e (by intro z; cases z)), e]; simp
  · by_cases hb : b = a
    · subst hb; rw [upd_same] at e; cases e
      exact ⟨eo, z, its, n, r, eo⟩
    · rw [upd_ne hb] at e
      exact (I.hok b u e).stay (fun c v _ q => q) (fun c q => by rw [upd_ne (ne c _ q (by intro z; cases z))]; exact q) fun c xs q => by rw [upd_ne (ne c _ q (by intro z; cases z))]; exact q
def tFrz (t : TE) : TE := fun σ H Q => t σ H fun v H1 => ∃ a vs, v = .ref a ∧ H1 a = some (.lst vs) ∧ ∀ o, Q v (upd H1 a (.frz o (.lst vs)))
theorem pe_frz {e : Expr} {t : TE} (h : PE X e t) : PE X e (tFrz t) := ⟨fun pins s σ H Q I q => wpAny_mono (h.run pins s σ H _ I q) (fun u s1 ⟨v, H1, I1, r, a, vs, ev, ha, hq⟩ => by
  obtain ⟨o, I2⟩ := Inv_frzL I1 ha
  exact ⟨v, _, I2, r, hq o⟩) fun _ _ e => e⟩
end
section
variable {X : Cx} {W : WX} {e : Expr} {K : PySem.W.Frag} {H H1 Kp : Hp} {ρ : Cells} {σ : L2.St}
theorem reps_frz {a : Addr} {o : Obj} {ds : List D} {vs : List V} (ha : H a = some (.lst vs)) (r : Reps K H ds vs []) : Reps K (upd H a (.frz o (.lst vs))) ds vs [] :=
  r.keep ⟨fun b m => (nomatch m), fun b xs e => by rw [upd_ne (fun z => by subst z; rw [ha] at e; exact tno xs e)]; exact e⟩
def pFrz (τ : PTr) : PTr := fun η R => τ η fun d o => o = true ∧ ∃ ds, d = .lst ds ∧ immL ds = true ∧ R (.fl ds) true
theorem p_frz {τ : PTr} (h : DP X W e τ) : DP X W e (pFrz τ) := PE.weak (pe_frz h) fun σ H Q q => by
  obtain ⟨η, R, s, h, q⟩ := q
  refine ⟨η, _, s, h, fun d o v H1 hd sm rs => ?_⟩
  obtain ⟨rfl, ds, rfl, hi, hr⟩ := hd
  obtain ⟨f, r⟩ := rs
  have hth := r.rep.there
  obtain ⟨a, vs, fp, rfl, ha, rr, rfl⟩ := r.rep.lst_inv
  obtain rfl := rr.imm hi
  have hna : nt H a = none := r.new a List.mem_cons_self
  refine ⟨a, vs, rfl, ha, fun o => q _ _ _ _ hr ⟨fun b u e n => ?_, ?_⟩ ⟨[], Fresh.imm (show immL ds = true from hi) (.fl upd_same (reps_frz ha rr))⟩⟩
  · rw [upd_ne (fun z => by rw [z] at e; exact nt_none hna e n)]
    exact sm.ext b u e n
  · exact sm.tab.upd (p := a) (fun b o n e => by rw [upd_ne n]; exact e) (fun o e => by rw [ha] at e; cases e; exact ⟨(fun _ z => by cases z), fun _ z => by cases z⟩)
theorem S_frzEnd {ds : List D} {a : Addr} {vs : List V} (s : S K Kp H (ρ ++ [.own (.lst ds)]) (σ ++ [some (.ref a)])) (hl : ρ.length = σ.length) (hu : H a = some (.lst vs)) (hi : immL ds = true) (od : Obj) :
    S K Kp (upd H a (.frz od (.lst vs))) (ρ ++ [.own (.fl ds)]) (σ ++ [some (.ref a)]) := by
  obtain ⟨fp, s⟩ := s
  obtain ⟨w, ew, ⟨⟨v, e1, r⟩, mu⟩⟩ := s.cell ρ.length (.own (.lst ds)) (by simp)
  rw [hl] at ew; simp at ew
  subst ew
  cases e1
  obtain ⟨b, vs2, g, eb, hb, rr, hf⟩ := r.lst_inv
  cases eb
  rw [hu] at hb; cases hb
  obtain rfl := rr.imm hi
  have ne : ∀ i, i ≠ ρ.length → ∀ b ∈ fp i, b ≠ a := fun i hi b hb z => hi (s.dj i ρ.length a (z ▸ hb) (by rw [hf]; exact List.mem_cons_self))
  have ka : Kp a = none := s.kp ρ.length a (by rw [hf]; exact List.mem_cons_self)
  have up : ∀ b o, b ≠ a → H b = some o → upd H a (.frz od (.lst vs)) b = some o := fun b o n e => by rw [upd_ne n]; exact e
  have kt : ∀ b (xs : TupX), H b = some xs.1 → upd H a (.frz od (.lst vs)) b = some xs.1 := fun b xs e => up b _ (fun z => by rw [z, hu] at e; exact tno xs e) e
  have kne : ∀ b o, Kp b = some o → b ≠ a := fun b o e z => by rw [z, ka] at e; cases e
  have hs' : ∀ b o, Kp b = some o → upd H a (.frz od (.lst vs)) b = some o := fun b o e => up b o (kne b o e) (s.sub b o e)
  refine ⟨fun i => if i = ρ.length then [] else fp i, by simp [hl], fun i c e => ?_, fun i e => ?_, fun i => ?_, fun i j b hi hj => ?_, fun i b hi => ?_, ⟨hs', s.sub.nt, ?_⟩⟩
  · by_cases hi2 : i = ρ.length
    · subst hi2
      simp at e; subst e
      refine ⟨some (.ref a), by rw [hl]; simp, ?_⟩
      rw [if_pos rfl]
      exact ⟨⟨_, rfl, .fl upd_same (reps_frz hu rr)⟩, fun b m => nomatch m⟩
    · have hil : i < ρ.length := by have := (List.getElem?_eq_some_iff.mp e).1; simp at this; omega
      rw [List.getElem?_append_left hil] at e
      obtain ⟨w, e1, q⟩ := s.cell i c (by rw [List.getElem?_append_left hil]; exact e)
      refine ⟨w, e1, ?_⟩
      rw [if_neg hi2]
      exact q.keep ⟨fun b m o e => up b o (ne i hi2 b m) e, kt⟩ s.sub.sub hs' fun b o e => ⟨o, e⟩
  · have : i ≠ ρ.length := fun z => by subst z; simp at e
    rw [if_neg this]
    exact s.out i (by simpa using e)
  · by_cases hi2 : i = ρ.length
    · rw [if_pos hi2]; exact List.nodup_nil
    · rw [if_neg hi2]; exact s.nd i
  · have m : ∀ i, b ∈ (if i = ρ.length then [] else fp i) → b ∈ fp i := fun i h => by
      by_cases z : i = ρ.length
      · rw [if_pos z] at h; cases h
      · rw [if_neg z] at h; exact h
    exact s.dj i j b (m i hi) (m j hj)
  · by_cases z : i = ρ.length
    · rw [if_pos z] at hi; cases hi
    · rw [if_neg z] at hi; exact s.kp i b hi
  · exact s.sub.tab.upd (p := a) (fun b o n e => up b o n e) (fun o e => by rw [hu] at e; cases e; exact ⟨(fun _ z => by cases z), fun _ z => by cases z⟩)
def eFrz (τ : ETr) : ETr := fun X ρ R => τ X ρ fun d o ρ1 => o = true ∧ ∃ ds, d = .lst ds ∧ immL ds = true ∧ R (.fl ds) true ρ1
theorem e_frz {τ : ETr} (h : DE X W e τ) : DE X W e (eFrz τ) := PE.weak (pe_frz h) fun σ H Q q => by
  obtain ⟨Kp, ρ, ts, vs, Y, R, hl, s, x, h, q⟩ := q
  have ht := s.lenT hl
  refine ⟨Kp, ρ, ts, vs, Y, _, hl, s, x, h, fun d o ρ1 v H1 K1 hb sm s1 => ?_⟩
  obtain ⟨rfl, ds, rfl, hi, hr⟩ := hb
  have hl1 := s1.lenR ht (by simp)
  have s2 : S X.K K1 H1 ((ρ1 ++ ts) ++ [.own (.lst ds)]) ((σ ++ vs) ++ [some v]) := by
    rw [List.append_assoc, List.append_assoc]; exact s1
  obtain ⟨w, g, e1, r1⟩ := s2.last (by simp [hl1, ht]) (TC_data true (.lst ds) v)
  cases e1
  obtain ⟨a, us, fp, rfl, ha, rr, rfl⟩ := r1.lst_inv
  refine ⟨a, us, rfl, ha, fun o => q _ true _ _ _ _ hr sm ?_⟩
  have s3 := S_frzEnd s2 (by simp [hl1, ht]) ha hi o
  rw [List.append_assoc, List.append_assoc] at s3
  exact s3
end
/-! ### what is done with such a list -/
section
variable {X : Cx}
theorem Rep.fl_inv {K : PySem.W.Frag} {H : Hp} {ds : List D} {v : V} {fp : List Addr} (r : Rep K H (.fl ds) v fp) : ∃ a o vs, v = .ref a ∧ H a = some (.frz o (.lst vs)) ∧ Reps K H ds vs fp := by
  cases r with | fl h r => exact ⟨_, _, _, rfl, h, r⟩
/-- tuple(x) of such a list -/
def tupleF : DC := fun ds R => match ds with
  | [.fl xs] => immL xs = true ∧ R (.tup xs) true
  | _ => False
end
end DL

namespace PySem
open Sem
set_option linter.all false
set_option Elab.async false
set_option maxRecDepth 100000
set_option maxHeartbeats 4000000
/-! ## D103: str of a list or a tuple of plain things, whatever is under way -/
section
variable {prog : Program} {w : World} {A : Around} {E : Value → Shared → Prop} {s : Shared}
theorem reprAll_at {l : List Value} {ts : List Str} (h : ReprAll prog w l ts) : ∀ (i : Nat) (y : Value), l[i]? = some y → ∃ t, ts[i]? = some t ∧ ReprIs prog w y t := by
  induction h with
  | nil => intro i y e; simp at e
  | cons h t ih =>
    intro i y e
    cases i with
    | zero => simp at e; subst e; exact ⟨_, rfl, h⟩
    | succ i => exact ih i y (by simpa using e)
theorem sfy_list_fin {a : Addr} {o : Obj} {x : Value} {l : List Value} {n : Nat} {ts : List Str} {R : Result → Shared → Prop} (ha : s.heap.get? a = some o) (hd : o.data = .seq (x :: l).toArray n) (hT : ReprAll prog w (x :: l) ts) (hsz : (listText ts).length ≤ sizeLine)
    (h : ∀ (m : Str) (u : Tok) (h' : Heap) (tk : Tok), (m = listText ts ∨ m = "[...]") → (∀ b o, s.heap.get? b = some o → h'.get? b = some o) → R (.ok (.ret (.str m u))) { s with heap := h', toks := tk }) :
    wpAny (model prog w) A.in1 (Builtin.listReprAt 0 ⟨[.ref a], []⟩)
      (fun fin s' => match fin with | .done f => R (.ok f) s' | .again c' => c'.quiet = true ∧ codeAny (model prog w) A c' R s') (fun e s' => R (.error e) s') s := by
  intro Γ p hΓ
  unfold Builtin.listReprAt
  simp [slotArgs, Builtin.List.listItems, seqItems?, wp_load_of (h := ha), hd, stack]
  show wp _ Γ (if (Γ.below.any _) = true then _ else _) _ _ p s
  split
  · have h0 : wpAny (model prog w) A.in1 (do rule "list.__repr__.in-itself"; retStr "[...]") (fun fin s' => match fin with | .done f => R (.ok f) s' | .again c' => c'.quiet = true ∧ codeAny (model prog w) A c' R s') (fun e s' => R (.error e) s') s := by
      refine wpAny_bind (wpAny_rule ?_)
      refine wpAny_bind (wpAny_mkStr (wpAny_pure ?_) (by decide +kernel))
      exact h "[...]" _ _ _ (.inr rfl) fun _ _ e => e
    exact h0 Γ p hΓ
  · have h0 : wpAny (model prog w) A.in1 (do again (.builtin "list.__repr__.loop" ⟨[.ref a, rawInt 0, ← newList [], rawInt (0 : Nat)], []⟩)) (fun fin s' => match fin with | .done f => R (.ok f) s' | .again c' => c'.quiet = true ∧ codeAny (model prog w) A c' R s') (fun e s' => R (.error e) s') s := by
      refine wpAny_bind (m := newList []) (wpAny_newObj_type ?_)
      refine wpAny_pure ⟨F.quiet_list_repr_loop _, ?_⟩
      refine codeAny_list_repr_start (P := s.heap.objs.size) (ts := ts) (items := (x :: l).toArray) (Nat.ne_of_lt (Heap.lt_size ha)) (by simpa using hT.length_eq) (fun i y e => reprAll_at hT i y (by simpa using e)) (Heap.get?_push_of_some _ ha) hd (Heap.get?_push_size _ rfl) (fun h' u tk hk => ?_) (by omega)
      exact h _ u h' tk (.inl rfl) fun b o e => hk b o (Nat.ne_of_lt (Heap.lt_size e)) (Heap.get?_push_of_some _ e)
    exact h0 Γ p hΓ
theorem sfy_list_repr {a : Addr} {o : Obj} {items : Array Value} {n : Nat} {ts : List Str} {Q : Value → Shared → Prop} (ha : s.heap.get? a = some o) (hc : o.cls = .type "list") (hd : o.data = .seq items n) (hT : ReprAll prog w items.toList ts) (hsz : (listText ts).length ≤ sizeLine)
    (h : ∀ (m : Str) (u : Tok) (h' : Heap) (tk : Tok), (m = listText ts ∨ m = "[...]") → (∀ b o, s.heap.get? b = some o → h'.get? b = some o) → Q (.str m u) { s with heap := h', toks := tk }) : wpAny (model prog w) A (call (.builtin "list.__repr__") [.ref a]) Q E s := by
  obtain ⟨l⟩ := items
  cases l with
  | nil =>
    have e : ts = [] := List.length_eq_zero_iff.mp (by simpa using hT.length_eq)
    subst e
    exact call_list_repr_empty ⟨o, ha, hc⟩ ha hd (h (listText []) _ s.heap _ (.inl rfl) fun _ _ e => e)
  | cons x l =>
    exact wpAny_call (codeAny_call_builtin F.slot_list_repr.plain F.entry_list_repr (F.slot_list_repr.check _ _ _ _ _ _ _ _ ⟨o, ha, hc⟩ (F.args_list_repr_1 _)
      (sfy_list_fin (R := fun r s' => match r with | .ok (.ret v) => Q v s' | .ok _ => False | .error e => E e s') ha hd (by simpa using hT) hsz h)))
theorem sfy_tuple_repr {a : Addr} {o : Obj} {items : Array Value} {n : Nat} {ts : List Str} {Q : Value → Shared → Prop} (ha : s.heap.get? a = some o) (hc : o.cls = .type "tuple") (hd : o.data = .seq items n) (hT : ReprAll prog w items.toList ts) (hsz : (tupleText ts).length ≤ sizeLine)
    (h : ∀ (m : Str) (u tk : Tok), (m = tupleText ts ∨ m = "(...)") → Q (.str m u) { s with toks := tk }) : wpAny (model prog w) A (call (.builtin "tuple.__repr__") [.ref a]) Q E s := by
  refine wpAny_call (codeAny_call_builtin_own (Code.quiet_builtin _ (by decide +kernel)) F.entry_tuple_repr (F.slot_tuple_repr.check _ _ _ _ _ _ _ _ ⟨o, ha, hc⟩ (F.args_tuple_repr_1 _) (wpOwn_of_wpAny ?_)))
  show wpAny _ _ (Builtin.tupleReprAt 0 ⟨[.ref a], []⟩) _ _ s
  rw [tuple_repr_tree]
  refine wpAny_bind (fmt_underWay fun b => ?_)
  cases b with
  | true =>
    refine PySem.W.KFB.if_so rfl ?_
    refine wpAny_bind (wpAny_rule ?_)
    refine wpAny_bind (wpAny_mkStr (wpAny_pure ?_) (by decide +kernel))
    exact h "(...)" _ _ (.inr rfl)
  | false =>
    refine PySem.W.KFB.if_not rfl ?_
    refine wpAny_tupleReprRest ha hd hT (fun u tk => ?_) (by omega)
    exact h (tupleText ts) u tk (.inl rfl)
end
section
open Builtin Builtin.Str Builtin.Int
theorem meetsIn_str_new {P : Program} {w : World} {v : Value} {S : Spec} (hs : ∀ (A : Around) (R : Result → Shared → Prop) (s : Shared), S A R s →
      wpAny (model P w) A.in1 (strOf v) (fun r s' => R (.ok (.ret r)) s') (fun e s' => R (.error e) s') s) : MeetsIn P w (Builtin.«str.__new__» ⟨[.type "str", v], []⟩) S := by
  refine MeetsIn.of_wp fun A R s h => ?_
  rw [str_new_tree v]
  refine wpAny_bind (wpAny_pure ?_)
  refine wpAny_bind (wpAny_of_eq isSubtype_str_str ?_)
  exact wpAny_bind (wpAny_mono (hs A R s h) (fun r s' h' => wpAny_pure ⟨_, rfl, h'⟩) fun _ _ e => e)
theorem str_of_slot {T idr : String} {v : Value} {s : Shared} {A : Around} {E : Value → Shared → Prop} {Q : Value → Shared → Prop} {P : Program} {w : World} (hv : isExactStr v = false) (hu : A.units + 5 < cLine) (hT : s.TypeIs v T) (slotStr : Slot T "__str__" "object.__str__") (slotRepr : SlotG T "__repr__" idr)
    (hc : ∀ (A' : Around) (E' : Value → Shared → Prop), wpAny (model P w) A' (call (.builtin idr) [v]) (fun r s₁ => ∃ x t, r = .str x t ∧ Q r s₁) E' s) : wpAny (model P w) A (call (.type "str") [v]) Q E s :=
  callType_newIn F.called_str (by decide) (F.typeCall_str_1 _) (F.newCall_str_1 _) (fun obj => F.args_object_init_2 obj _) F.entry_str_new
    (meetsIn_str_new (S := fun A' R s' => s' = s ∧ A'.units + 3 < cLine ∧ ∀ x t s₁, Q (.str x t) s₁ → R (.ok (.ret (.str x t))) s₁) fun A' R s' h => by
      obtain ⟨rfl, hu', hq⟩ := h
      refine wpAny_strOf_slot hv (by show A'.units + 1 + 1 < cLine; omega) hT slotStr slotRepr (wpAny_mono (hc _ _) (fun r s₁ h => ?_) fun _ _ e => e)
      obtain ⟨x, t, rfl, h⟩ := h
      exact ⟨x, t, rfl, hq x t s₁ h⟩)
    ⟨rfl, by show A.units + 1 + 3 < cLine; omega, fun x t s₁ h => ⟨typeIs_str _ _ _, h⟩⟩
end
end PySem
namespace DL
open PySem PySem.Spec PyProof.Rows L2
/-- what is shown of a plain thing -/
def shown1 : D → Option Str
  | .non => some "None" | .bl b => some (if b then "True" else "False") | .int i => if i.natAbs.log2 < 1920 then some (toString i) else none
  | .str s => if (reprText s).length ≤ sizeLine then some (reprText s) else none
  | _ => none
theorem shown1_is {P : Program} {w : World} {K : PySem.W.Frag} {H : Hp} {d : D} {v : V} {u : Value} {f : List Addr} {t : Str} (r : Rep K H d v f) (ru : RelV v u) (h : shown1 d = some t) : ReprIs P w u t := by
  cases r with
  | non => cases ru; simp only [shown1, Option.some.injEq] at h; subst h; exact ReprIs.none
  | bl b => cases ru; simp only [shown1, Option.some.injEq] at h; subst h; exact ReprIs.bool b
  | int i =>
    obtain ⟨t, rfl⟩ := ru
    simp only [shown1] at h
    split at h
    · rename_i hz; simp only [Option.some.injEq] at h; subst h; exact ReprIs.int t hz
    · cases h
  | str x =>
    obtain ⟨t, rfl⟩ := ru
    simp only [shown1] at h
    split at h
    · rename_i hz; simp only [Option.some.injEq] at h; subst h; exact ReprIs.str x t hz
    · cases h
  | _ => simp [shown1] at h
def shownL : List D → Option (List Str)
  | [] => some []
  | d :: ds => match shown1 d, shownL ds with
    | some t, some ts => some (t :: ts)
    | _, _ => none
theorem shownL_is {P : Program} {w : World} {K : PySem.W.Frag} {H : Hp} : ∀ {ds : List D} {vs : List V} {us : List Value} {f : List Addr} {ts : List Str}, Reps K H ds vs f → Vals vs us → shownL ds = some ts → ReprAll P w us ts
  | _, _, _, _, ts, .nil, .nil, h => by simp only [shownL, Option.some.injEq] at h; subst h; exact .nil
  | _, _, _, _, ts, .cons (d := d) (ds := ds) r q, .cons ru qu, h => by
    simp only [shownL] at h
    split at h
    · rename_i e1 e2
      simp only [Option.some.injEq] at h; subst h
      exact .cons (shown1_is r ru e1) (shownL_is q qu e2)
    · cases h
/-- str of a list or a tuple of plain things: its text, or that it is under way -/
def strLM : DC := fun ds R => match ds with
  | [.fl xs] => ∃ ts, shownL xs = some ts ∧ (listText ts).length ≤ sizeLine ∧ R (.str (listText ts)) true ∧ R (.str "[...]") true
  | [.tup xs] => ∃ ts, shownL xs = some ts ∧ (tupleText ts).length ≤ sizeLine ∧ R (.str (tupleText ts)) true ∧ R (.str "(...)") true
  | [.str s] => R (.str s) true
  | [.non] => R (.str "None") true
  | [.bl b] => R (.str (if b then "True" else "False")) true
  | [.int i] => i.natAbs.log2 < 1920 ∧ R (.str (toString i)) true
  | _ => False
section
variable {X : Cx}
theorem d_strL (hu : X.A.units + 65 < cLine) : DCall X (.type "str") strLM := by
  intro pins s σ H xs us Q I rv q
  obtain ⟨ds, fs, R, ra, ho, q⟩ := q
  unfold strLM at ho
  split at ho
  · obtain ⟨v, rfl, r⟩ := ra.one_inv
    obtain ⟨ts, h1, h2, hr1, hr2⟩ := ho
    obtain ⟨a, o, vs, rfl, ha, rr⟩ := r.fl_inv
    obtain ⟨u, rfl, ru⟩ := vals1 rv
    cases (show u = Value.ref a from ru)
    obtain ⟨e, z, its, n, hv, e2⟩ := (show ObjOk X.prog X.w H s.heap a (.frz o (.lst vs)) from I.hok a _ ha)
    refine str_of_slot rfl (by omega) ⟨_, e2, rfl⟩ F.slot_list_str F.slot_list_repr.toG fun A' E' => ?_
    refine sfy_list_repr e2 rfl rfl (by simpa using shownL_is rr hv h1) h2 fun m t h' tk hm hk => ⟨m, t, rfl, .str m, H, ?_, ⟨t, rfl⟩, ?_⟩
    · exact I.un (Un.kept hk) (I.hok.kept hk)
    · rcases hm with rfl | rfl
      · exact q _ _ _ _ hr1 (Same.refl H) ⟨[], Fresh.imm rfl (.str _)⟩
      · exact q _ _ _ _ hr2 (Same.refl H) ⟨[], Fresh.imm rfl (.str _)⟩
  · obtain ⟨v, rfl, r⟩ := ra.one_inv
    obtain ⟨ts, h1, h2, hr1, hr2⟩ := ho
    obtain ⟨a, vs, rfl, ha, rr⟩ := r.tup_inv
    obtain ⟨u, rfl, ru⟩ := vals1 rv
    cases (show u = Value.ref a from ru)
    obtain ⟨z, its, hv, ob, e, e1, e2⟩ := (show ObjOk X.prog X.w H s.heap a (.tup vs) from I.hok a _ ha)
    refine str_of_slot rfl (by omega) ⟨_, e, e1⟩ F.slot_tuple_str F.slot_tuple_repr fun A' E' => ?_
    obtain ⟨n, e3⟩ := e2
    refine sfy_tuple_repr e e1 e3 (by simpa using shownL_is rr hv h1) h2 fun m t tk hm => ⟨m, t, rfl, .str m, H, I.tok _, ⟨t, rfl⟩, ?_⟩
    rcases hm with rfl | rfl
    · exact q _ _ _ _ hr1 (Same.refl H) ⟨[], Fresh.imm rfl (.str _)⟩
    · exact q _ _ _ _ hr2 (Same.refl H) ⟨[], Fresh.imm rfl (.str _)⟩
  · obtain ⟨v, rfl, r⟩ := ra.one_inv
    obtain ⟨u, rfl, ru⟩ := vals1 rv
    obtain rfl := r.str_inv.1
    obtain ⟨t, rfl⟩ := ru
    exact PySem.P.str_of_str ⟨.str _, H, I, ⟨t, rfl⟩, q _ _ _ _ ho (Same.refl H) ⟨[], Fresh.imm rfl (.str _)⟩⟩
  · obtain ⟨v, rfl, r⟩ := ra.one_inv
    obtain ⟨u, rfl, ru⟩ := vals1 rv
    cases r
    cases ru
    exact PySem.P.str_of_none ⟨.str _, H, I.tok _, ⟨_, rfl⟩, q _ _ _ _ ho (Same.refl H) ⟨[], Fresh.imm rfl (.str _)⟩⟩
  · obtain ⟨v, rfl, r⟩ := ra.one_inv
    obtain ⟨u, rfl, ru⟩ := vals1 rv
    cases r
    cases ru
    exact PySem.P.str_of_bool ⟨.str _, H, I.tok _, ⟨_, rfl⟩, q _ _ _ _ ho (Same.refl H) ⟨[], Fresh.imm rfl (.str _)⟩⟩
  · obtain ⟨v, rfl, r⟩ := ra.one_inv
    obtain ⟨u, rfl, ru⟩ := vals1 rv
    obtain rfl := r.int_inv.1
    obtain ⟨t, rfl⟩ := ru
    exact PySem.P.str_of_int ho.1 ⟨.str _, H, I.tok _, ⟨_, rfl⟩, q _ _ _ _ ho.2 (Same.refl H) ⟨[], Fresh.imm rfl (.str _)⟩⟩
  · exact ho.elim
end
end DL

namespace DL
open PySem PySem.Spec PyProof.Rows L2
set_option linter.all false
set_option Elab.async false
set_option maxRecDepth 100000
set_option maxHeartbeats 1000000

/-! ## V: steps of the reading of a def's transformer (printed by gen/mkvc.py) -/
theorem entR_data (d : D) (v : V) : (entR d v).data = some d := by unfold entR; split <;> rfl
theorem entP_data (d : D) (v : V) : (entP d v).data = some d := by unfold entP; split <;> rfl
theorem entR_imm {d : D} (h : d.imm = true) (v : V) : entR d v = .own d := by unfold entR; rw [if_pos h]
theorem entP_imm {d : D} (h : d.imm = true) (v : V) : entP d v = .own d := by unfold entP; rw [if_pos h]
theorem entR_int (i : Int) (v : V) : entR (.int i) v = .own (.int i) := rfl
theorem entR_bl (i : Bool) (v : V) : entR (.bl i) v = .own (.bl i) := rfl
theorem entR_str (i : Str) (v : V) : entR (.str i) v = .own (.str i) := rfl
theorem entR_non (v : V) : entR .non v = .own .non := rfl
theorem entR_lst (xs : List D) (v : V) : entR (.lst xs) v = .ro (.lst xs) v := rfl
theorem entR_dK (xs : List (Key × D)) (v : V) : entR (.dK xs) v = .ro (.dK xs) v := rfl
theorem entR_dT (xs : List (List Key × D)) (v : V) : entR (.dT xs) v = .ro (.dT xs) v := rfl
theorem entR_scr (xs : List Int) (v : V) : entR (.scr xs) v = .ro (.scr xs) v := rfl
theorem entP_int (i : Int) (v : V) : entP (.int i) v = .own (.int i) := rfl
theorem entP_lst (xs : List D) (v : V) : entP (.lst xs) v = .pin (.lst xs) v := rfl
theorem vs1 {vs : List V} (h : vs.length = 1) : ∃ a, vs = [a] := match vs, h with | [a], _ => ⟨a, rfl⟩
theorem vs2 {vs : List V} (h : vs.length = 2) : ∃ a b, vs = [a, b] := match vs, h with | [a, b], _ => ⟨a, b, rfl⟩
theorem vs3 {vs : List V} (h : vs.length = 3) : ∃ a b c, vs = [a, b, c] := match vs, h with | [a, b, c], _ => ⟨a, b, c, rfl⟩
theorem look_map {ρ : Cells} {i : Nat} {d : D} {X : EX} (h : (ρ[i]?).bind Cell.data = some d) : (En.mk (ρ.map Cell.data) (fun cls => X cls ρ)).v[i]? = some (some d) := by
  cases e : ρ[i]? with
  | none => rw [e] at h; cases h
  | some c => rw [e] at h; simp only [Option.bind_some] at h; simp [e, h]
theorem look_there {ρ : Cells} {i : Nat} {d : D} (h : (ρ[i]?).bind Cell.data = some d) : ∃ c d, ρ[i]? = some c ∧ c.data = some d := by
  cases e : ρ[i]? with
  | none => rw [e] at h; cases h
  | some c => rw [e] at h; exact ⟨c, d, rfl, h⟩
abbrev mkE (X : EX) (ρ : Cells) : En := ⟨ρ.map Cell.data, fun cls => X cls ρ⟩
def forQ (xs : List D) (γ : ETg) (t : ESt) (X : EX) (E : DEnds) (ρ1 : Cells) : Prop := ∃ I : Nat → Cells → Prop, I 0 ρ1 ∧
  (∀ (i : Nat) (x : D) ρ2, xs[i]? = some x → I i ρ2 → γ x ρ2 fun ρ3 => t X { E with nx := I (i + 1), ct := I (i + 1), bk := E.nx } ρ3) ∧ ∀ ρ2, I xs.length ρ2 → E.nx ρ2
def whileQ (c : ETt) (t : ESt) (X : EX) (E : DEnds) (ρ : Cells) : Prop := ∃ I : Nat → Cells → Prop, (∃ m, I m ρ) ∧ ∀ m ρ, I m ρ → c X ρ fun k ρ1 =>
  if k = true then t X { E with nx := fun ρ2 => ∃ m', m' < m ∧ I m' ρ2, ct := fun ρ2 => ∃ m', m' < m ∧ I m' ρ2, bk := E.nx } ρ1 else E.nx ρ1
theorem for_pre {xs : List D} {γ : ETg} {t : ESt} {X : EX} {E : DEnds} {ρ : Cells} (I : List D → Cells → Prop) (h0 : I [] ρ)
    (h1 : ∀ pre x post ρ2, xs = pre ++ x :: post → I pre ρ2 → γ x ρ2 fun ρ3 => t X { E with nx := I (pre ++ [x]), ct := I (pre ++ [x]), bk := E.nx } ρ3) (h2 : ∀ ρ2, I xs ρ2 → E.nx ρ2) : forQ xs γ t X E ρ := by
  refine ⟨fun i ρ => I (xs.take i) ρ, by simpa using h0, fun i x ρ2 e h => ?_, fun ρ2 h => h2 ρ2 (by simpa using h)⟩
  have hi := (List.getElem?_eq_some_iff.mp e).1
  have := h1 (xs.take i) x (xs.drop (i + 1)) ρ2 (by
    have e1 := (List.getElem?_eq_some_iff.mp e).2
    rw [← e1, List.getElem_cons_drop, List.take_append_drop]) h
  have e2 : xs.take (i + 1) = xs.take i ++ [x] := by rw [List.take_add_one, e]; rfl
  rw [← e2] at this; exact this
theorem for_preT {β : Type} {l : List β} {f : β → D} {γ : ETg} {t : ESt} {X : EX} {E : DEnds} {ρ : Cells} (I : List β → Cells → Prop) (h0 : I [] ρ)
    (h1 : ∀ pre x post ρ2, l = pre ++ x :: post → I pre ρ2 → γ (f x) ρ2 fun ρ3 => t X { E with nx := I (pre ++ [x]), ct := I (pre ++ [x]), bk := E.nx } ρ3) (h2 : ∀ ρ2, I l ρ2 → E.nx ρ2) : forQ (l.map f) γ t X E ρ := by
  refine ⟨fun i ρ => I (l.take i) ρ, by simpa using h0, fun i x ρ2 e h => ?_, fun ρ2 h => h2 ρ2 (by simpa using h)⟩
  rw [List.getElem?_map] at e
  cases e0 : l[i]? with
  | none => rw [e0] at e; cases e
  | some a =>
    rw [e0] at e; cases e
    have hi := (List.getElem?_eq_some_iff.mp e0).1
    have := h1 (l.take i) a (l.drop (i + 1)) ρ2 (by
      have e1 := (List.getElem?_eq_some_iff.mp e0).2
      rw [← e1, List.getElem_cons_drop, List.take_append_drop]) h
    have e2 : l.take (i + 1) = l.take i ++ [a] := by rw [List.take_add_one, e0]; rfl
    rw [← e2] at this; exact this
theorem while_I {c : ETt} {t : ESt} {X : EX} {E : DEnds} {ρ : Cells} (I : Nat → Cells → Prop) (m : Nat) (h0 : I m ρ)
    (h1 : ∀ m ρ, I m ρ → c X ρ fun k ρ1 => if k = true then t X { E with nx := fun ρ2 => ∃ m', m' < m ∧ I m' ρ2, ct := fun ρ2 => ∃ m', m' < m ∧ I m' ρ2, bk := E.nx } ρ1 else E.nx ρ1) : whileQ c t X E ρ := ⟨I, ⟨m, h0⟩, h1⟩
def turnR (α : PTg) (cond : PTt) (τe : PTr) (vs : List Nat) (η : En) (ys : List (Option D)) (i : Nat) (x : D) : Prop := turnQ α cond τe vs η ys i x
/-- a comprehension over xs -/
def lcQ (xs : List D) (α : PTg) (cond : PTt) (τe : PTr) (vs : List Nat) (η : En) (R : DR) : Prop := ∃ ys : List (Option D), ys.length = xs.length ∧ (∀ (i : Nat) (x : D), xs[i]? = some x → turnQ α cond τe vs η ys i x) ∧ R (.lst (ys.filterMap id)) true
section
variable {α : PTg} {cond : PTt} {τe : PTr} {vs : List Nat} {η : En} {R : DR} {β : Type}
/-- transformers that keep to their ends -/
theorem lc_filter {l : List β} {f : β → D} (g : β → Option D) (h : ∀ a ∈ l, ∀ ys : List (Option D), ∀ i : Nat, ys[i]? = some (g a) → turnR α cond τe vs η ys i (f a)) (q : R (.lst (l.filterMap g)) true) : lcQ (l.map f) α cond τe vs η R := by
  refine ⟨l.map g, by simp, fun i x e => ?_, by simpa [List.filterMap_map] using q⟩
  rw [List.getElem?_map] at e
  cases e1 : l[i]? with
  | none => rw [e1] at e; cases e
  | some a =>
    rw [e1] at e; cases e
    exact h a (List.mem_of_getElem? e1) _ i (by rw [List.getElem?_map, e1]; rfl)
theorem lc_map {l : List β} {f : β → D} (g : β → D) (h : ∀ a ∈ l, ∀ ys : List (Option D), ∀ i : Nat, ys[i]? = some (some (g a)) → turnR α cond τe vs η ys i (f a)) (q : R (.lst (l.map g)) true) : lcQ (l.map f) α cond τe vs η R := by
  refine lc_filter (fun a => some (g a)) h ?_
  have : l.filterMap (fun a => some (g a)) = l.map g := by induction l <;> simp_all
  rw [this]; exact q
theorem lc_map0 {xs : List D} (g : D → D) (h : ∀ a ∈ xs, ∀ ys : List (Option D), ∀ i : Nat, ys[i]? = some (some (g a)) → turnR α cond τe vs η ys i a) (q : R (.lst (xs.map g)) true) : lcQ xs α cond τe vs η R := by
  have := lc_map (l := xs) (f := id) g h q
  simpa using this
theorem filterMap_if {β γ : Type} (p : β → Bool) (g : β → γ) (l : List β) : l.filterMap (fun a => if p a = true then some (g a) else none) = (l.filter p).map g := by
  induction l with
  | nil => rfl
  | cons a l ih => cases e : p a <;> simp [List.filterMap_cons, List.filter_cons, e, ih]
theorem lc_filt {l : List β} {f : β → D} (p : β → Bool) (g : β → D) (h : ∀ a ∈ l, ∀ ys : List (Option D), ∀ i : Nat, ys[i]? = some (if p a = true then some (g a) else none) → turnR α cond τe vs η ys i (f a)) (q : R (.lst ((l.filter p).map g)) true) : lcQ (l.map f) α cond τe vs η R := by
  refine lc_filter (fun a => if p a = true then some (g a) else none) h ?_
  rw [filterMap_if]; exact q
end
theorem seq_if {tc : ETt} {a b u : ESt} {X : EX} {E : DEnds} {ρ : Cells} (q : tc X ρ fun k ρ1 => if k = true then sSeq a u X E ρ1 else sSeq b u X E ρ1) : sSeq (sIf tc a b) u X E ρ := q
section
variable {X : EX} {E : DEnds} {ρ : Cells} {η : En} {R : D → Bool → Cells → Prop} {Rp : DR} {N : Cells → Prop}
variable {τ τa τb τk τv : ETr} {κ : ETk} {γ : ETg} {t u a b : ESt} {tc tA tB : ETt} {it : ETi} {p pa pb pc : PTr} {pt pu : PTt} {ps : PTa} {es : ETa} {ns : ETn} {i j n : Nat} {m m' : DM} {dc : DC} {d da db : D} {o : Bool} {v : V} {cls : Value}
variable {pit : PTi} {α : PTg} {cond : PTt} {τe : PTr} {sl : List Nat} {po po2 : PTo} {dcx : DCX} {G : DCE} {z k : Int} {x y : Str} {RB : Bool → Prop} {RBc : Bool → Cells → Prop} {RL : List D → Bool → Prop} {RLc : List D → Cells → Prop} {RA : List Arg → Cells → Prop} {RO : Option Int → Prop} {Rk : D → Cells → Prop} {xs ys ds : List D}
/-- one step of the reading -/
class Step (P : Prop) (Q : outParam Prop) : Prop where
  go : Q → P
theorem stp {P Q : Prop} [s : Step P Q] (q : Q) : P := s.go q
theorem v1_set  (q : τ X ρ fun d o ρ1 => bindC i d o ρ1 E.nx) : sSet i τ X E ρ := q
instance iv1_set : Step (sSet i τ X E ρ) (τ X ρ fun d o ρ1 => bindC i d o ρ1 E.nx) := ⟨fun q => v1_set q⟩
theorem v_set  (q : τ X ρ fun d o ρ1 => bindC i d o ρ1 (fun ρ9 => u X E ρ9)) : sSeq (sSet i τ) u X E ρ := q
instance iv_set : Step (sSeq (sSet i τ) u X E ρ) (τ X ρ fun d o ρ1 => bindC i d o ρ1 (fun ρ9 => u X E ρ9)) := ⟨fun q => v_set q⟩
theorem v1_keep  (q : κ X ρ fun d ρ1 => bindC i d d.imm ρ1 E.nx) : sKeep i κ X E ρ := q
instance iv1_keep : Step (sKeep i κ X E ρ) (κ X ρ fun d ρ1 => bindC i d d.imm ρ1 E.nx) := ⟨fun q => v1_keep q⟩
theorem v_keep  (q : κ X ρ fun d ρ1 => bindC i d d.imm ρ1 (fun ρ9 => u X E ρ9)) : sSeq (sKeep i κ) u X E ρ := q
instance iv_keep : Step (sSeq (sKeep i κ) u X E ρ) (κ X ρ fun d ρ1 => bindC i d d.imm ρ1 (fun ρ9 => u X E ρ9)) := ⟨fun q => v_keep q⟩
theorem v1_setLc  (q : pLc pit α cond τe sl (mkE X ρ) fun d o => o = true ∧ bindC i d true ρ E.nx) : sSetLc i pit α cond τe sl X E ρ := q
instance iv1_setLc : Step (sSetLc i pit α cond τe sl X E ρ) (pLc pit α cond τe sl (mkE X ρ) fun d o => o = true ∧ bindC i d true ρ E.nx) := ⟨fun q => v1_setLc q⟩
theorem v_setLc  (q : pLc pit α cond τe sl (mkE X ρ) fun d o => o = true ∧ bindC i d true ρ (fun ρ9 => u X E ρ9)) : sSeq (sSetLc i pit α cond τe sl) u X E ρ := q
instance iv_setLc : Step (sSeq (sSetLc i pit α cond τe sl) u X E ρ) (pLc pit α cond τe sl (mkE X ρ) fun d o => o = true ∧ bindC i d true ρ (fun ρ9 => u X E ρ9)) := ⟨fun q => v_setLc q⟩
theorem v1_drop  (q : τ X ρ fun _ _ ρ1 => E.nx ρ1) : sDrop τ X E ρ := q
instance iv1_drop : Step (sDrop τ X E ρ) (τ X ρ fun _ _ ρ1 => E.nx ρ1) := ⟨fun q => v1_drop q⟩
theorem v_drop  (q : τ X ρ fun _ _ ρ1 => (fun ρ9 => u X E ρ9) ρ1) : sSeq (sDrop τ) u X E ρ := q
instance iv_drop : Step (sSeq (sDrop τ) u X E ρ) (τ X ρ fun _ _ ρ1 => (fun ρ9 => u X E ρ9) ρ1) := ⟨fun q => v_drop q⟩
theorem v1_asg  (q : κ X ρ fun d ρ1 => γ d ρ1 E.nx) : sAsg κ γ X E ρ := q
instance iv1_asg : Step (sAsg κ γ X E ρ) (κ X ρ fun d ρ1 => γ d ρ1 E.nx) := ⟨fun q => v1_asg q⟩
theorem v_asg  (q : κ X ρ fun d ρ1 => γ d ρ1 (fun ρ9 => u X E ρ9)) : sSeq (sAsg κ γ) u X E ρ := q
instance iv_asg : Step (sSeq (sAsg κ γ) u X E ρ) (κ X ρ fun d ρ1 => γ d ρ1 (fun ρ9 => u X E ρ9)) := ⟨fun q => v_asg q⟩
theorem v1_put  (q : τv X ρ fun dv ov ρ1 => ov = true ∧ (∃ c d0, ρ1[i]? = some c ∧ c.data = some d0) ∧ τk X ρ1 fun dk ok ρ2 => ok = true ∧ ∃ c d, ρ2[i]? = some c ∧ c.mutD = some d ∧ putM d dk dv fun d' => E.nx (ρ2.set i (reC c d'))) : sPut i τk τv X E ρ := q
instance iv1_put : Step (sPut i τk τv X E ρ) (τv X ρ fun dv ov ρ1 => ov = true ∧ (∃ c d0, ρ1[i]? = some c ∧ c.data = some d0) ∧ τk X ρ1 fun dk ok ρ2 => ok = true ∧ ∃ c d, ρ2[i]? = some c ∧ c.mutD = some d ∧ putM d dk dv fun d' => E.nx (ρ2.set i (reC c d'))) := ⟨fun q => v1_put q⟩
theorem v_put  (q : τv X ρ fun dv ov ρ1 => ov = true ∧ (∃ c d0, ρ1[i]? = some c ∧ c.data = some d0) ∧ τk X ρ1 fun dk ok ρ2 => ok = true ∧ ∃ c d, ρ2[i]? = some c ∧ c.mutD = some d ∧ putM d dk dv fun d' => (fun ρ9 => u X E ρ9) (ρ2.set i (reC c d'))) : sSeq (sPut i τk τv) u X E ρ := q
instance iv_put : Step (sSeq (sPut i τk τv) u X E ρ) (τv X ρ fun dv ov ρ1 => ov = true ∧ (∃ c d0, ρ1[i]? = some c ∧ c.data = some d0) ∧ τk X ρ1 fun dk ok ρ2 => ok = true ∧ ∃ c d, ρ2[i]? = some c ∧ c.mutD = some d ∧ putM d dk dv fun d' => (fun ρ9 => u X E ρ9) (ρ2.set i (reC c d'))) := ⟨fun q => v_put q⟩
theorem v1_setL  (q : τv X ρ fun dv ov ρ1 => ov = true ∧ dv.imm = true ∧ (∃ c d0, ρ1[i]? = some c ∧ c.data = some d0) ∧ τk X ρ1 fun dk ok ρ2 => ok = true ∧ ∃ c xs j k, ρ2[i]? = some c ∧ c.mutD = some (.lst xs) ∧ immL xs = true ∧ dk = .int j ∧ ixN xs.length j = some k ∧ E.nx (ρ2.set i (reC c (.lst (xs.set k dv))))) : sSetL i τk τv X E ρ := q
instance iv1_setL : Step (sSetL i τk τv X E ρ) (τv X ρ fun dv ov ρ1 => ov = true ∧ dv.imm = true ∧ (∃ c d0, ρ1[i]? = some c ∧ c.data = some d0) ∧ τk X ρ1 fun dk ok ρ2 => ok = true ∧ ∃ c xs j k, ρ2[i]? = some c ∧ c.mutD = some (.lst xs) ∧ immL xs = true ∧ dk = .int j ∧ ixN xs.length j = some k ∧ E.nx (ρ2.set i (reC c (.lst (xs.set k dv))))) := ⟨fun q => v1_setL q⟩
theorem v_setL  (q : τv X ρ fun dv ov ρ1 => ov = true ∧ dv.imm = true ∧ (∃ c d0, ρ1[i]? = some c ∧ c.data = some d0) ∧ τk X ρ1 fun dk ok ρ2 => ok = true ∧ ∃ c xs j k, ρ2[i]? = some c ∧ c.mutD = some (.lst xs) ∧ immL xs = true ∧ dk = .int j ∧ ixN xs.length j = some k ∧ (fun ρ9 => u X E ρ9) (ρ2.set i (reC c (.lst (xs.set k dv))))) : sSeq (sSetL i τk τv) u X E ρ := q
instance iv_setL : Step (sSeq (sSetL i τk τv) u X E ρ) (τv X ρ fun dv ov ρ1 => ov = true ∧ dv.imm = true ∧ (∃ c d0, ρ1[i]? = some c ∧ c.data = some d0) ∧ τk X ρ1 fun dk ok ρ2 => ok = true ∧ ∃ c xs j k, ρ2[i]? = some c ∧ c.mutD = some (.lst xs) ∧ immL xs = true ∧ dk = .int j ∧ ixN xs.length j = some k ∧ (fun ρ9 => u X E ρ9) (ρ2.set i (reC c (.lst (xs.set k dv))))) := ⟨fun q => v_setL q⟩
theorem v1_for  (q : it X ρ fun xs ρ1 => forQ xs γ t X E ρ1) : sFor it γ t X E ρ := q
instance iv1_for : Step (sFor it γ t X E ρ) (it X ρ fun xs ρ1 => forQ xs γ t X E ρ1) := ⟨fun q => v1_for q⟩
theorem v_for  (q : it X ρ fun xs ρ1 => forQ xs γ t X { E with nx := fun ρ9 => u X E ρ9 } ρ1) : sSeq (sFor it γ t) u X E ρ := q
instance iv_for : Step (sSeq (sFor it γ t) u X E ρ) (it X ρ fun xs ρ1 => forQ xs γ t X { E with nx := fun ρ9 => u X E ρ9 } ρ1) := ⟨fun q => v_for q⟩
theorem v1_while  (q : whileQ tc t X E ρ) : sWhile tc t X E ρ := q
instance iv1_while : Step (sWhile tc t X E ρ) (whileQ tc t X E ρ) := ⟨fun q => v1_while q⟩
theorem v_while  (q : whileQ tc t X { E with nx := fun ρ9 => u X E ρ9 } ρ) : sSeq (sWhile tc t) u X E ρ := q
instance iv_while : Step (sSeq (sWhile tc t) u X E ρ) (whileQ tc t X { E with nx := fun ρ9 => u X E ρ9 } ρ) := ⟨fun q => v_while q⟩
theorem v1_next  (q : E.nx ρ) : sNext X E ρ := q
instance iv1_next : Step (sNext X E ρ) (E.nx ρ) := ⟨fun q => v1_next q⟩
theorem v_next  (q : u X E ρ) : sSeq sNext u X E ρ := q
instance iv_next : Step (sSeq sNext u X E ρ) (u X E ρ) := ⟨fun q => v_next q⟩
theorem v_seq  (q : sSeq a (sSeq b u) X E ρ) : sSeq (sSeq a b) u X E ρ := q
instance iv_seq : Step (sSeq (sSeq a b) u X E ρ) (sSeq a (sSeq b u) X E ρ) := ⟨fun q => v_seq q⟩
theorem v_ret  (q : τ X ρ fun d o ρ1 => E.rt d o ρ1) : sSeq (sRet τ) u X E ρ := q
instance iv_ret : Step (sSeq (sRet τ) u X E ρ) (τ X ρ fun d o ρ1 => E.rt d o ρ1) := ⟨fun q => v_ret q⟩
theorem v1_ret  (q : τ X ρ fun d o ρ1 => E.rt d o ρ1) : sRet τ X E ρ := q
instance iv1_ret : Step (sRet τ X E ρ) (τ X ρ fun d o ρ1 => E.rt d o ρ1) := ⟨fun q => v1_ret q⟩
theorem v1_retK  (q : κ X ρ fun d ρ1 => E.rt d d.imm ρ1) : sRetK κ X E ρ := q
instance iv1_retK : Step (sRetK κ X E ρ) (κ X ρ fun d ρ1 => E.rt d d.imm ρ1) := ⟨fun q => v1_retK q⟩
theorem v1_retN  (q : E.rt .non true ρ) : sRetN X E ρ := q
instance iv1_retN : Step (sRetN X E ρ) (E.rt .non true ρ) := ⟨fun q => v1_retN q⟩
theorem v_dropP  (q : p (mkE X ρ) fun _ _ => u X E ρ) : sSeq (sDropP p) u X E ρ := q
instance iv_dropP : Step (sSeq (sDropP p) u X E ρ) (p (mkE X ρ) fun _ _ => u X E ρ) := ⟨fun q => v_dropP q⟩
theorem v1_raise  (q : X cls ρ) : sRaise cls X E ρ := q
instance iv1_raise : Step (sRaise cls X E ρ) (X cls ρ) := ⟨fun q => v1_raise q⟩
theorem v1_brk  (q : E.bk ρ) : sBreak X E ρ := q
instance iv1_brk : Step (sBreak X E ρ) (E.bk ρ) := ⟨fun q => v1_brk q⟩
theorem v1_cont  (q : E.ct ρ) : sCont X E ρ := q
instance iv1_cont : Step (sCont X E ρ) (E.ct ρ) := ⟨fun q => v1_cont q⟩
theorem v_if  (q : tc X ρ fun k ρ1 => if k = true then sSeq a u X E ρ1 else sSeq b u X E ρ1) : sSeq (sIf tc a b) u X E ρ := seq_if q
instance iv_if : Step (sSeq (sIf tc a b) u X E ρ) (tc X ρ fun k ρ1 => if k = true then sSeq a u X E ρ1 else sSeq b u X E ρ1) := ⟨fun q => v_if q⟩
theorem v1_if  (q : tc X ρ fun k ρ1 => if k = true then a X E ρ1 else b X E ρ1) : sIf tc a b X E ρ := q
instance iv1_if : Step (sIf tc a b X E ρ) (tc X ρ fun k ρ1 => if k = true then a X E ρ1 else b X E ρ1) := ⟨fun q => v1_if q⟩
theorem v_raise  (q : X cls ρ) : sSeq (sRaise cls) u X E ρ := q
instance iv_raise : Step (sSeq (sRaise cls) u X E ρ) (X cls ρ) := ⟨fun q => v_raise q⟩
theorem v_brk  (q : E.bk ρ) : sSeq sBreak u X E ρ := q
instance iv_brk : Step (sSeq sBreak u X E ρ) (E.bk ρ) := ⟨fun q => v_brk q⟩
theorem v_cont  (q : E.ct ρ) : sSeq sCont u X E ρ := q
instance iv_cont : Step (sSeq sCont u X E ρ) (E.ct ρ) := ⟨fun q => v_cont q⟩
def MK_bt (d : D) (ρ : Cells) (i : Nat) (N : Cells → Prop) (o : Bool) : Prop := bindC i d o ρ N
theorem gv_bt  (q : MK_bt d ρ i N o) : bindC i d o ρ N := q
theorem v_bt  (q : N (ρ.set i (.own d))) (hi : decide (i < ρ.length) = true := by exact rfl) (ho : o = true := by first | exact rfl | assumption | (simp only [D.imm, immL, immL_ints, immL_prs, prD, Bool.and_true, *] <;> fail)) : MK_bt d ρ i N o := show bindC i d o ρ N from ⟨of_decide_eq_true hi, by rw [if_pos ho]; exact q⟩
def MK_bf (d : D) (ρ : Cells) (i : Nat) (N : Cells → Prop) (o : Bool) : Prop := bindC i d o ρ N
theorem gv_bf  (q : MK_bf d ρ i N o) : bindC i d o ρ N := q
theorem v_bf  (q : ∀ v, N (ρ.set i (.ro d v))) (hi : decide (i < ρ.length) = true := by exact rfl) (ho : o = false := by first | exact rfl | assumption) : MK_bf d ρ i N o := show bindC i d o ρ N from ⟨of_decide_eq_true hi, by rw [ho, if_neg Bool.false_ne_true]; exact q⟩
theorem v_ePure  (q : p (mkE X ρ) fun d o => o = true ∧ R d true ρ) : ePure p X ρ R := q
instance iv_ePure : Step (ePure p X ρ R) (p (mkE X ρ) fun d o => o = true ∧ R d true ρ) := ⟨fun q => v_ePure q⟩
def MK_eTi (ρ : Cells) (i : Nat) (X : EX) (R : D → Bool → Cells → Prop) : Prop := eTake i X ρ R
theorem gv_eTi  (q : MK_eTi ρ i X R) : eTake i X ρ R := q
theorem v_eTi  (q : R d true ρ) (h : ρ[i]? = some (.own d) := by exact rfl) (hd : d.imm = true := by first | exact rfl | assumption | (simp only [D.imm, immL, immL_ints, immL_prs, prD, Bool.and_true, *] <;> fail)) : MK_eTi ρ i X R := show eTake i X ρ R from by unfold eTake; rw [h]; simp only [killC, hd, if_true]; exact q
def MK_eTn (ρ : Cells) (i : Nat) (X : EX) (R : D → Bool → Cells → Prop) : Prop := eTake i X ρ R
theorem gv_eTn  (q : MK_eTn ρ i X R) : eTake i X ρ R := q
theorem v_eTn  (q : R d true (ρ.set i .no)) (h : ρ[i]? = some (.own d) := by exact rfl) (hd : d.imm = false := by first | exact rfl | assumption) : MK_eTn ρ i X R := show eTake i X ρ R from by unfold eTake; rw [h]; simp only [killC, hd, Bool.false_eq_true, if_false]; exact q
def MK_eTo (ρ : Cells) (i : Nat) (X : EX) (R : D → Bool → Cells → Prop) : Prop := eTake i X ρ R
theorem gv_eTo  (q : MK_eTo ρ i X R) : eTake i X ρ R := q
theorem v_eTo  (q : R d true (killC d i ρ)) (h : ρ[i]? = some (.own d) := by exact rfl) : MK_eTo ρ i X R := show eTake i X ρ R from by unfold eTake; rw [h]; exact q
def MK_eTp (ρ : Cells) (i : Nat) (X : EX) (R : D → Bool → Cells → Prop) : Prop := eTake i X ρ R
theorem gv_eTp  (q : MK_eTp ρ i X R) : eTake i X ρ R := q
theorem v_eTp  (q : R d true (killC d i ρ)) (h : ρ[i]? = some (.pin d v) := by exact rfl) : MK_eTp ρ i X R := show eTake i X ρ R from by unfold eTake; rw [h]; exact q
def MK_eTr (ρ : Cells) (i : Nat) (X : EX) (R : D → Bool → Cells → Prop) : Prop := eTake i X ρ R
theorem gv_eTr  (q : MK_eTr ρ i X R) : eTake i X ρ R := q
theorem v_eTr  (q : R d d.imm ρ) (h : ρ[i]? = some (.ro d v) := by exact rfl) : MK_eTr ρ i X R := show eTake i X ρ R from by unfold eTake; rw [h]; exact q
theorem v_eBin  (q : τa X ρ fun da oa ρ1 => oa = true ∧ τb X ρ1 fun db ob ρ2 => ob = true ∧ m da db fun d o => o = true ∧ R d true ρ2) : eBin m τa τb X ρ R := q
instance iv_eBin : Step (eBin m τa τb X ρ R) (τa X ρ fun da oa ρ1 => oa = true ∧ τb X ρ1 fun db ob ρ2 => ob = true ∧ m da db fun d o => o = true ∧ R d true ρ2) := ⟨fun q => v_eBin q⟩
theorem v_eBinN  (q : (∃ c d, ρ[i]? = some c ∧ c.data = some d) ∧ τb X ρ fun db ob ρ2 => ob = true ∧ ∃ c d, ρ2[i]? = some c ∧ c.data = some d ∧ m d db fun d o => o = true ∧ R d true ρ2) : eBinN m i τb X ρ R := q
instance iv_eBinN : Step (eBinN m i τb X ρ R) ((∃ c d, ρ[i]? = some c ∧ c.data = some d) ∧ τb X ρ fun db ob ρ2 => ob = true ∧ ∃ c d, ρ2[i]? = some c ∧ c.data = some d ∧ m d db fun d o => o = true ∧ R d true ρ2) := ⟨fun q => v_eBinN q⟩
theorem v_eIxO  (q : τa X ρ fun da oa ρ1 => oa = true ∧ τb X ρ1 fun db ob ρ2 => ob = true ∧ ∃ xs j d, (da = .lst xs ∨ da = .tup xs) ∧ db = .int j ∧ atI xs j = some d ∧ R d true ρ2) : eIxO τa τb X ρ R := q
instance iv_eIxO : Step (eIxO τa τb X ρ R) (τa X ρ fun da oa ρ1 => oa = true ∧ τb X ρ1 fun db ob ρ2 => ob = true ∧ ∃ xs j d, (da = .lst xs ∨ da = .tup xs) ∧ db = .int j ∧ atI xs j = some d ∧ R d true ρ2) := ⟨fun q => v_eIxO q⟩
theorem v_eTup  (q : es X ρ fun ds ρ1 => ds.length ≤ sizeLine ∧ R (.tup ds) true ρ1) : eTup es X ρ R := q
instance iv_eTup : Step (eTup es X ρ R) (es X ρ fun ds ρ1 => ds.length ≤ sizeLine ∧ R (.tup ds) true ρ1) := ⟨fun q => v_eTup q⟩
theorem v_eLst  (q : es X ρ fun ds ρ1 => ds.length ≤ sizeLine ∧ R (.lst ds) true ρ1) : eLst es X ρ R := q
instance iv_eLst : Step (eLst es X ρ R) (es X ρ fun ds ρ1 => ds.length ≤ sizeLine ∧ R (.lst ds) true ρ1) := ⟨fun q => v_eLst q⟩
theorem v_eaN  (q : RLc [] ρ) : eaNil X ρ RLc := q
instance iv_eaN : Step (eaNil X ρ RLc) (RLc [] ρ) := ⟨fun q => v_eaN q⟩
theorem v_eaC  (q : τ X ρ fun d o ρ1 => o = true ∧ es X ρ1 fun ds ρ2 => RLc (d :: ds) ρ2) : eaCons τ es X ρ RLc := q
instance iv_eaC : Step (eaCons τ es X ρ RLc) (τ X ρ fun d o ρ1 => o = true ∧ es X ρ1 fun ds ρ2 => RLc (d :: ds) ρ2) := ⟨fun q => v_eaC q⟩
theorem v_eCallM  (q : es X ρ fun ds ρ1 => dc ds fun d o => o = true ∧ R d true ρ1) : eCallM dc es X ρ R := q
instance iv_eCallM : Step (eCallM dc es X ρ R) (es X ρ fun ds ρ1 => dc ds fun d o => o = true ∧ R d true ρ1) := ⟨fun q => v_eCallM q⟩
theorem v_eCall  (q : ns X ρ fun as ρ1 => ∃ ds, argD as ρ1 = some ds ∧ ds.length = n ∧ (argN as).Nodup ∧ G ds (fun d fs => R d true (putF as fs ρ1)) (fun cls fs => X cls (putF as fs ρ1))) : eCall G n ns X ρ R := q
instance iv_eCall : Step (eCall G n ns X ρ R) (ns X ρ fun as ρ1 => ∃ ds, argD as ρ1 = some ds ∧ ds.length = n ∧ (argN as).Nodup ∧ G ds (fun d fs => R d true (putF as fs ρ1)) (fun cls fs => X cls (putF as fs ρ1))) := ⟨fun q => v_eCall q⟩
theorem v_eCallP  (q : es X ρ fun ds ρ1 => dcx ds (fun d o => o = true ∧ R d true ρ1) (fun cls => X cls ρ1)) : eCallP dcx es X ρ R := q
instance iv_eCallP : Step (eCallP dcx es X ρ R) (es X ρ fun ds ρ1 => dcx ds (fun d o => o = true ∧ R d true ρ1) (fun cls => X cls ρ1)) := ⟨fun q => v_eCallP q⟩
theorem v_enN  (q : RA [] ρ) : enNil X ρ RA := q
instance iv_enN : Step (enNil X ρ RA) (RA [] ρ) := ⟨fun q => v_enN q⟩
theorem v_enV  (q : τ X ρ fun d o ρ1 => o = true ∧ ns X ρ1 fun as ρ2 => RA (.inl d :: as) ρ2) : enVal τ ns X ρ RA := q
instance iv_enV : Step (enVal τ ns X ρ RA) (τ X ρ fun d o ρ1 => o = true ∧ ns X ρ1 fun as ρ2 => RA (.inl d :: as) ρ2) := ⟨fun q => v_enV q⟩
theorem v_enM  (q : (∃ c d, ρ[i]? = some c ∧ c.data = some d) ∧ ns X ρ fun as ρ2 => RA (.inr i :: as) ρ2) : enName i ns X ρ RA := q
instance iv_enM : Step (enName i ns X ρ RA) ((∃ c d, ρ[i]? = some c ∧ c.data = some d) ∧ ns X ρ fun as ρ2 => RA (.inr i :: as) ρ2) := ⟨fun q => v_enM q⟩
theorem v_eApp  (q : (∃ c xs, ρ[i]? = some c ∧ c.data = some (.lst xs)) ∧ τ X ρ fun d o ρ1 => o = true ∧ ∃ c xs, ρ1[i]? = some c ∧ c.mutD = some (.lst xs) ∧ xs.length < sizeLine ∧ R .non true (ρ1.set i (reC c (.lst (xs ++ [d]))))) : eAppend i τ X ρ R := q
instance iv_eApp : Step (eAppend i τ X ρ R) ((∃ c xs, ρ[i]? = some c ∧ c.data = some (.lst xs)) ∧ τ X ρ fun d o ρ1 => o = true ∧ ∃ c xs, ρ1[i]? = some c ∧ c.mutD = some (.lst xs) ∧ xs.length < sizeLine ∧ R .non true (ρ1.set i (reC c (.lst (xs ++ [d]))))) := ⟨fun q => v_eApp q⟩
theorem v_ePop  (q : ∃ c xs d, ρ[i]? = some c ∧ c.mutD = some (.lst xs) ∧ immL xs = true ∧ xs.getLast? = some d ∧ R d true (ρ.set i (reC c (.lst xs.dropLast)))) : ePop i X ρ R := q
instance iv_ePop : Step (ePop i X ρ R) (∃ c xs d, ρ[i]? = some c ∧ c.mutD = some (.lst xs) ∧ immL xs = true ∧ xs.getLast? = some d ∧ R d true (ρ.set i (reC c (.lst xs.dropLast)))) := ⟨fun q => v_ePop q⟩
theorem v_ePopAt  (q : (∃ c xs, ρ[i]? = some c ∧ c.data = some (.lst xs)) ∧ τ X ρ fun k o ρ1 => o = true ∧ ∃ c xs, ∃ (j : Nat), ∃ d, k = .int j ∧ ρ1[i]? = some c ∧ c.mutD = some (.lst xs) ∧ immL xs = true ∧ xs[j]? = some d ∧ j < 4611686018427387904 ∧ R d true (ρ1.set i (reC c (.lst (xs.eraseIdx j))))) : ePopAt i τ X ρ R := q
instance iv_ePopAt : Step (ePopAt i τ X ρ R) ((∃ c xs, ρ[i]? = some c ∧ c.data = some (.lst xs)) ∧ τ X ρ fun k o ρ1 => o = true ∧ ∃ c xs, ∃ (j : Nat), ∃ d, k = .int j ∧ ρ1[i]? = some c ∧ c.mutD = some (.lst xs) ∧ immL xs = true ∧ xs[j]? = some d ∧ j < 4611686018427387904 ∧ R d true (ρ1.set i (reC c (.lst (xs.eraseIdx j))))) := ⟨fun q => v_ePopAt q⟩
theorem v_eAppIx  (q : ∃ c d, ρ[i]? = some c ∧ c.inD = some d ∧ (∀ ts, d ≠ .tup ts) ∧ pa (mkE X ρ) fun dk _ => ∃ xs, ixK d dk = some (.lst xs) ∧ xs.length < sizeLine ∧ pb (mkE X ρ) fun dx ox => ox = true ∧ ∀ d', upIx d dk (.lst (xs ++ [dx])) = some d' → R .non true (ρ.set i (inC c d'))) : eAppIx i pa pb X ρ R := q
instance iv_eAppIx : Step (eAppIx i pa pb X ρ R) (∃ c d, ρ[i]? = some c ∧ c.inD = some d ∧ (∀ ts, d ≠ .tup ts) ∧ pa (mkE X ρ) fun dk _ => ∃ xs, ixK d dk = some (.lst xs) ∧ xs.length < sizeLine ∧ pb (mkE X ρ) fun dx ox => ox = true ∧ ∀ d', upIx d dk (.lst (xs ++ [dx])) = some d' → R .non true (ρ.set i (inC c d'))) := ⟨fun q => v_eAppIx q⟩
theorem v_eIf  (q : tc X ρ fun c ρ1 => if c = true then τa X ρ1 R else τb X ρ1 R) : eIf tc τa τb X ρ R := q
instance iv_eIf : Step (eIf tc τa τb X ρ R) (tc X ρ fun c ρ1 => if c = true then τa X ρ1 R else τb X ρ1 R) := ⟨fun q => v_eIf q⟩
theorem v_etP  (q : pt (mkE X ρ) fun b => RBc b ρ) : etPure pt X ρ RBc := q
instance iv_etP : Step (etPure pt X ρ RBc) (pt (mkE X ρ) fun b => RBc b ρ) := ⟨fun q => v_etP q⟩
theorem v_etV  (q : τ X ρ fun d o ρ1 => o = true ∧ ∃ k, d = .bl k ∧ RBc k ρ1) : etVal τ X ρ RBc := q
instance iv_etV : Step (etVal τ X ρ RBc) (τ X ρ fun d o ρ1 => o = true ∧ ∃ k, d = .bl k ∧ RBc k ρ1) := ⟨fun q => v_etV q⟩
theorem v_etA  (q : tA X ρ fun c ρ1 => if c = true then tB X ρ1 RBc else RBc false ρ1) : etAnd tA tB X ρ RBc := q
instance iv_etA : Step (etAnd tA tB X ρ RBc) (tA X ρ fun c ρ1 => if c = true then tB X ρ1 RBc else RBc false ρ1) := ⟨fun q => v_etA q⟩
theorem v_etO  (q : tA X ρ fun c ρ1 => if c = true then RBc true ρ1 else tB X ρ1 RBc) : etOr tA tB X ρ RBc := q
instance iv_etO : Step (etOr tA tB X ρ RBc) (tA X ρ fun c ρ1 => if c = true then RBc true ρ1 else tB X ρ1 RBc) := ⟨fun q => v_etO q⟩
theorem v_etN  (q : tA X ρ fun c ρ1 => RBc (!c) ρ1) : etNot tA X ρ RBc := q
instance iv_etN : Step (etNot tA X ρ RBc) (tA X ρ fun c ρ1 => RBc (!c) ρ1) := ⟨fun q => v_etN q⟩
theorem v_kOwn  (q : τ X ρ fun d _ ρ1 => Rk d ρ1) : kOwn τ X ρ Rk := q
instance iv_kOwn : Step (kOwn τ X ρ Rk) (τ X ρ fun d _ ρ1 => Rk d ρ1) := ⟨fun q => v_kOwn q⟩
theorem v_kIx  (q : κ X ρ fun da ρ1 => p (mkE X ρ1) fun db _ => ∃ d, ixK da db = some d ∧ Rk d ρ1) : kIx κ p X ρ Rk := q
instance iv_kIx : Step (kIx κ p X ρ Rk) (κ X ρ fun da ρ1 => p (mkE X ρ1) fun db _ => ∃ d, ixK da db = some d ∧ Rk d ρ1) := ⟨fun q => v_kIx q⟩
theorem v_kGet  (q : κ X ρ fun d ρ1 => d.isDict = true ∧ τ X ρ1 fun k ok ρ2 => ok = true ∧ τa X ρ2 fun x ox ρ3 => lookM d k fun o => match o with | some r => Rk r ρ3 | none => Rk x ρ3) : kGet2 κ τ τa X ρ Rk := q
instance iv_kGet : Step (kGet2 κ τ τa X ρ Rk) (κ X ρ fun d ρ1 => d.isDict = true ∧ τ X ρ1 fun k ok ρ2 => ok = true ∧ τa X ρ2 fun x ox ρ3 => lookM d k fun o => match o with | some r => Rk r ρ3 | none => Rk x ρ3) := ⟨fun q => v_kGet q⟩
def MK_kNr (ρ : Cells) (i : Nat) (X : EX) (Rk : D → Cells → Prop) : Prop := kName i X ρ Rk
theorem gv_kNr  (q : MK_kNr ρ i X Rk) : kName i X ρ Rk := q
theorem v_kNr  (q : Rk d ρ) (h : ρ[i]? = some (.ro d v) := by exact rfl) : MK_kNr ρ i X Rk := show kName i X ρ Rk from by unfold kName; rw [h]; exact q
def MK_kNi (ρ : Cells) (i : Nat) (X : EX) (Rk : D → Cells → Prop) : Prop := kName i X ρ Rk
theorem gv_kNi  (q : MK_kNi ρ i X Rk) : kName i X ρ Rk := q
theorem v_kNi  (q : Rk d ρ) (h : ρ[i]? = some (.own d) := by exact rfl) (hd : d.imm = true := by first | exact rfl | assumption | (simp only [D.imm, immL, immL_ints, immL_prs, prD, Bool.and_true, *] <;> fail)) : MK_kNi ρ i X Rk := show kName i X ρ Rk from by unfold kName; rw [h]; exact (if_pos hd).mpr q
def MK_kNo (ρ : Cells) (i : Nat) (X : EX) (Rk : D → Cells → Prop) : Prop := kName i X ρ Rk
theorem gv_kNo  (q : MK_kNo ρ i X Rk) : kName i X ρ Rk := q
theorem v_kNo  (q : ∀ v, Rk d (ρ.set i (.ro d v))) (h : ρ[i]? = some (.own d) := by exact rfl) (hd : d.imm = false := by first | exact rfl | assumption) : MK_kNo ρ i X Rk := show kName i X ρ Rk from by unfold kName; rw [h]; exact (if_neg (by rw [hd]; exact Bool.false_ne_true)).mpr q
theorem v_iSK  (q : κ X ρ fun d ρ1 => ∃ xs, items d = some xs ∧ (match d with | .str z => z.length ≤ sizeLine | _ => True) ∧ RLc xs ρ1) : iSeqK κ X ρ RLc := q
instance iv_iSK : Step (iSeqK κ X ρ RLc) (κ X ρ fun d ρ1 => ∃ xs, items d = some xs ∧ (match d with | .str z => z.length ≤ sizeLine | _ => True) ∧ RLc xs ρ1) := ⟨fun q => v_iSK q⟩
theorem v_itL  (q : RLc xs ρ) : ∃ zs, items (.lst xs) = some zs ∧ (match D.lst xs with | .str z => z.length ≤ sizeLine | _ => True) ∧ RLc zs ρ := ⟨_, rfl, trivial, q⟩
instance iv_itL : Step (∃ zs, items (.lst xs) = some zs ∧ (match D.lst xs with | .str z => z.length ≤ sizeLine | _ => True) ∧ RLc zs ρ) (RLc xs ρ) := ⟨fun q => v_itL q⟩
theorem v_itT  (q : RLc xs ρ) : ∃ zs, items (.tup xs) = some zs ∧ (match D.tup xs with | .str z => z.length ≤ sizeLine | _ => True) ∧ RLc zs ρ := ⟨_, rfl, trivial, q⟩
instance iv_itT : Step (∃ zs, items (.tup xs) = some zs ∧ (match D.tup xs with | .str z => z.length ≤ sizeLine | _ => True) ∧ RLc zs ρ) (RLc xs ρ) := ⟨fun q => v_itT q⟩
theorem v_iR1  (q : es X ρ fun ds ρ1 => ∃ n : Int, ds = [.int n] ∧ -4611686018427387904 ≤ n ∧ n ≤ 16777216 ∧ RLc ((List.range n.toNat).map fun i => .int (i : Nat)) ρ1) : iRg1 es X ρ RLc := q
instance iv_iR1 : Step (iRg1 es X ρ RLc) (es X ρ fun ds ρ1 => ∃ n : Int, ds = [.int n] ∧ -4611686018427387904 ≤ n ∧ n ≤ 16777216 ∧ RLc ((List.range n.toNat).map fun i => .int (i : Nat)) ρ1) := ⟨fun q => v_iR1 q⟩
theorem v_iR2  (q : es X ρ fun ds ρ1 => ∃ l n : Int, ds = [.int l, .int n] ∧ -4611686018427387904 ≤ n ∧ 0 ≤ l ∧ l ≤ 16777216 ∧ n ≤ 16777216 ∧ RLc (rgL l n) ρ1) : iRg2 es X ρ RLc := q
instance iv_iR2 : Step (iRg2 es X ρ RLc) (es X ρ fun ds ρ1 => ∃ l n : Int, ds = [.int l, .int n] ∧ -4611686018427387904 ≤ n ∧ 0 ≤ l ∧ l ≤ 16777216 ∧ n ≤ 16777216 ∧ RLc (rgL l n) ρ1) := ⟨fun q => v_iR2 q⟩
theorem v_gN  (q : bindC i d d.imm ρ N) : gnName i d ρ N := q
instance iv_gN : Step (gnName i d ρ N) (bindC i d d.imm ρ N) := ⟨fun q => v_gN q⟩
theorem v_gT {δ : ETgs} (q : ∃ ds, d = .tup ds ∧ ds.length = n ∧ δ ds ρ N) : gnTup n δ d ρ N := q
instance iv_gT {δ : ETgs} : Step (gnTup n δ d ρ N) (∃ ds, d = .tup ds ∧ ds.length = n ∧ δ ds ρ N) := ⟨fun q => v_gT q⟩
theorem v_g0  (q : ds = [] ∧ N ρ) : gnNil ds ρ N := q
instance iv_g0 : Step (gnNil ds ρ N) (ds = [] ∧ N ρ) := ⟨fun q => v_g0 q⟩
theorem v_gC {δ : ETgs} (q : γ d ρ fun ρ2 => δ ds ρ2 N) : gnCons γ δ (d :: ds) ρ N := ⟨d, ds, rfl, q⟩
instance iv_gC {δ : ETgs} : Step (gnCons γ δ (d :: ds) ρ N) (γ d ρ fun ρ2 => δ ds ρ2 N) := ⟨fun q => v_gC q⟩
def MK_pN (ρ : Cells) (i : Nat) (X : EX) (Rp : DR) : Prop := pName i (mkE X ρ) Rp
theorem gv_pN  (q : MK_pN ρ i X Rp) : pName i (mkE X ρ) Rp := q
theorem v_pN  (q : Rp d d.imm) (h : (ρ[i]?).bind Cell.data = some d := by first | exact rfl | exact entR_data _ _ | exact entP_data _ _) : MK_pN ρ i X Rp := show pName i (mkE X ρ) Rp from ⟨d, look_map h, q⟩
def MK_pN2 (i : Nat) (η : En) (Rp : DR) : Prop := pName i η Rp
theorem gv_pN2  (q : MK_pN2 i η Rp) : pName i η Rp := q
theorem v_pN2  (q : Rp d d.imm) (h : η.v[i]? = some (some d) := by exact rfl) : MK_pN2 i η Rp := show pName i η Rp from ⟨d, h, q⟩
theorem v_pC  (q : Rp d true) : pC d η Rp := q
instance iv_pC : Step (pC d η Rp) (Rp d true) := ⟨fun q => v_pC q⟩
theorem v_pBin  (q : pa η fun da _ => pb η fun db _ => m da db Rp) : pBin m pa pb η Rp := q
instance iv_pBin : Step (pBin m pa pb η Rp) (pa η fun da _ => pb η fun db _ => m da db Rp) := ⟨fun q => v_pBin q⟩
theorem v_pCh  (q : pa η fun da _ => pb η fun db _ => m da db fun z _ => ∃ k, z = .bl k ∧ if k = true then pc η fun dc _ => m' db dc Rp else Rp (.bl false) true) : pChain m m' pa pb pc η Rp := q
instance iv_pCh : Step (pChain m m' pa pb pc η Rp) (pa η fun da _ => pb η fun db _ => m da db fun z _ => ∃ k, z = .bl k ∧ if k = true then pc η fun dc _ => m' db dc Rp else Rp (.bl false) true) := ⟨fun q => v_pCh q⟩
theorem v_pNeg  (q : pa η fun d _ => ∃ i, d = .int i ∧ Rp (.int (-i)) true) : pNeg pa η Rp := q
instance iv_pNeg : Step (pNeg pa η Rp) (pa η fun d _ => ∃ i, d = .int i ∧ Rp (.int (-i)) true) := ⟨fun q => v_pNeg q⟩
theorem v_pNot  (q : pa η fun d _ => ∃ i, d = .bl i ∧ Rp (.bl (!i)) true) : pNot pa η Rp := q
instance iv_pNot : Step (pNot pa η Rp) (pa η fun d _ => ∃ i, d = .bl i ∧ Rp (.bl (!i)) true) := ⟨fun q => v_pNot q⟩
theorem v_pAnd  (q : pa η fun d _ => ∃ i, d = .bl i ∧ if i = true then pb η Rp else Rp (.bl false) true) : pAnd pa pb η Rp := q
instance iv_pAnd : Step (pAnd pa pb η Rp) (pa η fun d _ => ∃ i, d = .bl i ∧ if i = true then pb η Rp else Rp (.bl false) true) := ⟨fun q => v_pAnd q⟩
theorem v_pOr  (q : pa η fun d _ => ∃ i, d = .bl i ∧ if i = true then Rp (.bl true) true else pb η Rp) : pOr pa pb η Rp := q
instance iv_pOr : Step (pOr pa pb η Rp) (pa η fun d _ => ∃ i, d = .bl i ∧ if i = true then Rp (.bl true) true else pb η Rp) := ⟨fun q => v_pOr q⟩
theorem v_pIf  (q : pt η fun c => if c = true then pa η Rp else pb η Rp) : pIf pt pa pb η Rp := q
instance iv_pIf : Step (pIf pt pa pb η Rp) (pt η fun c => if c = true then pa η Rp else pb η Rp) := ⟨fun q => v_pIf q⟩
theorem v_pTup  (q : ps η fun ds o => ds.length ≤ sizeLine ∧ Rp (.tup ds) o) : pTup ps η Rp := q
instance iv_pTup : Step (pTup ps η Rp) (ps η fun ds o => ds.length ≤ sizeLine ∧ Rp (.tup ds) o) := ⟨fun q => v_pTup q⟩
theorem v_pLst  (q : ps η fun ds o => ds.length ≤ sizeLine ∧ Rp (.lst ds) o) : pLst ps η Rp := q
instance iv_pLst : Step (pLst ps η Rp) (ps η fun ds o => ds.length ≤ sizeLine ∧ Rp (.lst ds) o) := ⟨fun q => v_pLst q⟩
theorem v_aN  (q : RL [] true) : aNil η RL := q
instance iv_aN : Step (aNil η RL) (RL [] true) := ⟨fun q => v_aN q⟩
theorem v_aC  (q : p η fun d o => ps η fun ds os => RL (d :: ds) (o && os)) : aCons p ps η RL := q
instance iv_aC : Step (aCons p ps η RL) (p η fun d o => ps η fun ds os => RL (d :: ds) (o && os)) := ⟨fun q => v_aC q⟩
theorem v_pCall  (q : ps η fun ds _ => dc ds Rp) : pCall dc ps η Rp := q
instance iv_pCall : Step (pCall dc ps η Rp) (ps η fun ds _ => dc ds Rp) := ⟨fun q => v_pCall q⟩
theorem v_pCU  (q : ps η fun ds _ => dcx ds Rp fun _ => False) : pCallU dcx ps η Rp := q
instance iv_pCU : Step (pCallU dcx ps η Rp) (ps η fun ds _ => dcx ds Rp fun _ => False) := ⟨fun q => v_pCU q⟩
theorem v_pCX  (q : ps η fun ds _ => dcx ds Rp η.ex) : pCallX dcx ps η Rp := q
instance iv_pCX : Step (pCallX dcx ps η Rp) (ps η fun ds _ => dcx ds Rp η.ex) := ⟨fun q => v_pCX q⟩
theorem v_pG1  (q : pa η fun d _ => d.isDict = true ∧ pb η fun k _ => lookM d k fun o => match o with | some d => Rp d d.imm | none => Rp .non true) : pGet1 pa pb η Rp := q
instance iv_pG1 : Step (pGet1 pa pb η Rp) (pa η fun d _ => d.isDict = true ∧ pb η fun k _ => lookM d k fun o => match o with | some d => Rp d d.imm | none => Rp .non true) := ⟨fun q => v_pG1 q⟩
theorem v_pG2  (q : pa η fun d _ => d.isDict = true ∧ pb η fun k _ => pc η fun x ox => lookM d k fun o => match o with | some d => Rp d d.imm | none => Rp x ox) : pGet2 pa pb pc η Rp := q
instance iv_pG2 : Step (pGet2 pa pb pc η Rp) (pa η fun d _ => d.isDict = true ∧ pb η fun k _ => pc η fun x ox => lookM d k fun o => match o with | some d => Rp d d.imm | none => Rp x ox) := ⟨fun q => v_pG2 q⟩
theorem v_pIsi {s : String} (q : p η fun d _ => ∃ t, d.tyN = some t ∧ Rp (.bl (isT t s)) true) : pIsi s p η Rp := q
instance iv_pIsi {s : String} : Step (pIsi s p η Rp) (p η fun d _ => ∃ t, d.tyN = some t ∧ Rp (.bl (isT t s)) true) := ⟨fun q => v_pIsi q⟩
theorem v_pD0  (q : Rp d true) : pD0 d η Rp := q
instance iv_pD0 : Step (pD0 d η Rp) (Rp d true) := ⟨fun q => v_pD0 q⟩
theorem v_pD1  (q : pa η fun k _ => pb η fun x ox => ∃ kk, k.key = some kk ∧ ox = true ∧ Rp (.dK [(kk, x)]) true) : pD1 pa pb η Rp := q
instance iv_pD1 : Step (pD1 pa pb η Rp) (pa η fun k _ => pb η fun x ox => ∃ kk, k.key = some kk ∧ ox = true ∧ Rp (.dK [(kk, x)]) true) := ⟨fun q => v_pD1 q⟩
theorem v_pSl  (q : p η fun d _ => po η fun l => po2 η fun u => slM d l u Rp) : pSl p po po2 η Rp := q
instance iv_pSl : Step (pSl p po po2 η Rp) (p η fun d _ => po η fun l => po2 η fun u => slM d l u Rp) := ⟨fun q => v_pSl q⟩
theorem v_oN  (q : RO none) : oNone η RO := q
instance iv_oN : Step (oNone η RO) (RO none) := ⟨fun q => v_oN q⟩
theorem v_oS  (q : p η fun d _ => ∃ i, d = .int i ∧ RO (some i)) : oSome p η RO := q
instance iv_oS : Step (oSome p η RO) (p η fun d _ => ∃ i, d = .int i ∧ RO (some i)) := ⟨fun q => v_oS q⟩
theorem v_pR1 {mk : List D → D} (q : p η fun d _ => ∃ n : Int, d = .int n ∧ -4611686018427387904 ≤ n ∧ n ≤ 16777216 ∧ Rp (mk ((List.range n.toNat).map fun i => .int (i : Nat))) true) : pRg1 mk p η Rp := q
instance iv_pR1 {mk : List D → D} : Step (pRg1 mk p η Rp) (p η fun d _ => ∃ n : Int, d = .int n ∧ -4611686018427387904 ≤ n ∧ n ≤ 16777216 ∧ Rp (mk ((List.range n.toNat).map fun i => .int (i : Nat))) true) := ⟨fun q => v_pR1 q⟩
theorem v_pR2 {mk : List D → D} (q : pa η fun d _ => pb η fun d' _ => ∃ a n : Int, d = .int a ∧ d' = .int n ∧ 0 ≤ a ∧ a ≤ 16777216 ∧ -4611686018427387904 ≤ n ∧ n ≤ 16777216 ∧ Rp (mk (rgL a n)) true) : pRg2 mk pa pb η Rp := q
instance iv_pR2 {mk : List D → D} : Step (pRg2 mk pa pb η Rp) (pa η fun d _ => pb η fun d' _ => ∃ a n : Int, d = .int a ∧ d' = .int n ∧ 0 ≤ a ∧ a ≤ 16777216 ∧ -4611686018427387904 ≤ n ∧ n ≤ 16777216 ∧ Rp (mk (rgL a n)) true) := ⟨fun q => v_pR2 q⟩
theorem v_pLc  (q : pit η fun xs => lcQ xs α cond τe sl η Rp) : pLc pit α cond τe sl η Rp := q
instance iv_pLc : Step (pLc pit α cond τe sl η Rp) (pit η fun xs => lcQ xs α cond τe sl η Rp) := ⟨fun q => v_pLc q⟩
def MK_pLcK (i : Nat) (α : PTg) (cond : PTt) (τe : PTr) (η : En) (Rp : DR) (sl : List Nat) : Prop := pLcD i α cond τe sl η Rp
theorem gv_pLcK  (q : MK_pLcK i α cond τe η Rp sl) : pLcD i α cond τe sl η Rp := q
theorem v_pLcK {kv : List (Key × D)} (q : lcQ (kv.map fun e => kD e.1) α cond τe sl η Rp) (h : η.v[i]? = some (some (.dK kv)) := by exact rfl) : MK_pLcK i α cond τe η Rp sl := show pLcD i α cond τe sl η Rp from ⟨_, _, h, rfl, q⟩
def MK_pLcT (i : Nat) (α : PTg) (cond : PTt) (τe : PTr) (η : En) (Rp : DR) (sl : List Nat) : Prop := pLcD i α cond τe sl η Rp
theorem gv_pLcT  (q : MK_pLcT i α cond τe η Rp sl) : pLcD i α cond τe sl η Rp := q
theorem v_pLcT {kv : List (List Key × D)} (q : lcQ (kv.map fun e => kTD e.1) α cond τe sl η Rp) (h : η.v[i]? = some (some (.dT kv)) := by exact rfl) : MK_pLcT i α cond τe η Rp sl := show pLcD i α cond τe sl η Rp from ⟨_, _, h, rfl, q⟩
theorem v_turn {ys0 : List (Option D)} (q : α d (wipeE η sl) fun η2 => cond η2 fun b => if b = true then τe η2 fun d o' => o' = true ∧ ys0[i]? = some (some d) else ys0[i]? = some none) : turnR α cond τe sl η ys0 i d := q
instance iv_turn {ys0 : List (Option D)} : Step (turnR α cond τe sl η ys0 i d) (α d (wipeE η sl) fun η2 => cond η2 fun b => if b = true then τe η2 fun d o' => o' = true ∧ ys0[i]? = some (some d) else ys0[i]? = some none) := ⟨fun q => v_turn q⟩
theorem v_tV  (q : p η fun d _ => ∃ k, d = .bl k ∧ RB k) : tVal p η RB := q
instance iv_tV : Step (tVal p η RB) (p η fun d _ => ∃ k, d = .bl k ∧ RB k) := ⟨fun q => v_tV q⟩
theorem v_tA  (q : pt η fun c => if c = true then pu η RB else RB false) : tAndD pt pu η RB := q
instance iv_tA : Step (tAndD pt pu η RB) (pt η fun c => if c = true then pu η RB else RB false) := ⟨fun q => v_tA q⟩
theorem v_tO  (q : pt η fun c => if c = true then RB true else pu η RB) : tOrD pt pu η RB := q
instance iv_tO : Step (tOrD pt pu η RB) (pt η fun c => if c = true then RB true else pu η RB) := ⟨fun q => v_tO q⟩
theorem v_tN  (q : pt η fun c => RB (!c)) : tNotD pt η RB := q
instance iv_tN : Step (tNotD pt η RB) (pt η fun c => RB (!c)) := ⟨fun q => v_tN q⟩
theorem v_tY  (q : RB true) : tYesD η RB := q
instance iv_tY : Step (tYesD η RB) (RB true) := ⟨fun q => v_tY q⟩
theorem v_bN {Q : En → Prop} (q : Q (η.set i d)) : bName i d η Q := q
instance iv_bN {Q : En → Prop} : Step (bName i d η Q) (Q (η.set i d)) := ⟨fun q => v_bN q⟩
theorem v_bT {Q : En → Prop} {β : PTgs} (q : ∃ ds, d = .tup ds ∧ ds.length = n ∧ β ds η Q) : bTup n β d η Q := q
instance iv_bT {Q : En → Prop} {β : PTgs} : Step (bTup n β d η Q) (∃ ds, d = .tup ds ∧ ds.length = n ∧ β ds η Q) := ⟨fun q => v_bT q⟩
theorem v_b0 {Q : En → Prop} (q : ds = [] ∧ Q η) : bNil ds η Q := q
instance iv_b0 {Q : En → Prop} : Step (bNil ds η Q) (ds = [] ∧ Q η) := ⟨fun q => v_b0 q⟩
theorem v_bC {Q : En → Prop} {β : PTgs} (q : α d η fun η2 => β ds η2 Q) : bCons α β (d :: ds) η Q := ⟨d, ds, rfl, q⟩
instance iv_bC {Q : En → Prop} {β : PTgs} : Step (bCons α β (d :: ds) η Q) (α d η fun η2 => β ds η2 Q) := ⟨fun q => v_bC q⟩
theorem v_piS {Q : List D → Prop} (q : p η fun d _ => ∃ xs, items d = some xs ∧ (match d with | .str z => z.length ≤ sizeLine | _ => True) ∧ Q xs) : iSeq p η Q := q
instance iv_piS {Q : List D → Prop} : Step (iSeq p η Q) (p η fun d _ => ∃ xs, items d = some xs ∧ (match d with | .str z => z.length ≤ sizeLine | _ => True) ∧ Q xs) := ⟨fun q => v_piS q⟩
theorem v_pitL {Q : List D → Prop} (q : Q xs) : ∃ zs, items (.lst xs) = some zs ∧ (match D.lst xs with | .str z => z.length ≤ sizeLine | _ => True) ∧ Q zs := ⟨_, rfl, trivial, q⟩
instance iv_pitL {Q : List D → Prop} : Step (∃ zs, items (.lst xs) = some zs ∧ (match D.lst xs with | .str z => z.length ≤ sizeLine | _ => True) ∧ Q zs) (Q xs) := ⟨fun q => v_pitL q⟩
theorem v_pitT {Q : List D → Prop} (q : Q xs) : ∃ zs, items (.tup xs) = some zs ∧ (match D.tup xs with | .str z => z.length ≤ sizeLine | _ => True) ∧ Q zs := ⟨_, rfl, trivial, q⟩
instance iv_pitT {Q : List D → Prop} : Step (∃ zs, items (.tup xs) = some zs ∧ (match D.tup xs with | .str z => z.length ≤ sizeLine | _ => True) ∧ Q zs) (Q xs) := ⟨fun q => v_pitT q⟩
theorem v_piR1 {Q : List D → Prop} (q : ps η fun ds _ => ∃ n : Int, ds = [.int n] ∧ -4611686018427387904 ≤ n ∧ n ≤ 16777216 ∧ Q ((List.range n.toNat).map fun i => .int (i : Nat))) : iRange1 ps η Q := q
instance iv_piR1 {Q : List D → Prop} : Step (iRange1 ps η Q) (ps η fun ds _ => ∃ n : Int, ds = [.int n] ∧ -4611686018427387904 ≤ n ∧ n ≤ 16777216 ∧ Q ((List.range n.toNat).map fun i => .int (i : Nat))) := ⟨fun q => v_piR1 q⟩
theorem v_piR2 {Q : List D → Prop} (q : ps η fun ds _ => ∃ l n : Int, ds = [.int l, .int n] ∧ -4611686018427387904 ≤ n ∧ 0 ≤ l ∧ l ≤ 16777216 ∧ n ≤ 16777216 ∧ Q ((List.range (n - l).toNat).map fun i => .int (l + (i : Nat)))) : iRange2 ps η Q := q
instance iv_piR2 {Q : List D → Prop} : Step (iRange2 ps η Q) (ps η fun ds _ => ∃ l n : Int, ds = [.int l, .int n] ∧ -4611686018427387904 ≤ n ∧ 0 ≤ l ∧ l ≤ 16777216 ∧ n ≤ 16777216 ∧ Q ((List.range (n - l).toNat).map fun i => .int (l + (i : Nat)))) := ⟨fun q => v_piR2 q⟩
theorem v_add  (q : Rp (.int (z + k)) true) : addM (.int z) (.int k) Rp := .inl ⟨trivial, q⟩
instance iv_add : Step (addM (.int z) (.int k) Rp) (Rp (.int (z + k)) true) := ⟨fun q => v_add q⟩
theorem v_sub  (q : Rp (.int (z - k)) true) : subM (.int z) (.int k) Rp := ⟨trivial, q⟩
instance iv_sub : Step (subM (.int z) (.int k) Rp) (Rp (.int (z - k)) true) := ⟨fun q => v_sub q⟩
theorem v_lt  (q : Rp (.bl (decide (z < k))) true) : ltM (.int z) (.int k) Rp := .inl ⟨trivial, q⟩
instance iv_lt : Step (ltM (.int z) (.int k) Rp) (Rp (.bl (decide (z < k))) true) := ⟨fun q => v_lt q⟩
theorem v_le  (q : Rp (.bl (decide (z ≤ k))) true) : leM (.int z) (.int k) Rp := ⟨trivial, q⟩
instance iv_le : Step (leM (.int z) (.int k) Rp) (Rp (.bl (decide (z ≤ k))) true) := ⟨fun q => v_le q⟩
theorem v_gt  (q : Rp (.bl (decide (k < z))) true) : gtM (.int z) (.int k) Rp := ⟨trivial, q⟩
instance iv_gt : Step (gtM (.int z) (.int k) Rp) (Rp (.bl (decide (k < z))) true) := ⟨fun q => v_gt q⟩
theorem v_ge  (q : Rp (.bl (decide (k ≤ z))) true) : geM (.int z) (.int k) Rp := ⟨trivial, q⟩
instance iv_ge : Step (geM (.int z) (.int k) Rp) (Rp (.bl (decide (k ≤ z))) true) := ⟨fun q => v_ge q⟩
def MK_mul (Rp : DR) (z : Int) (k : Int) : Prop := mulM' (.int z) (.int k) Rp
theorem gv_mul  (q : MK_mul Rp z k) : mulM' (.int z) (.int k) Rp := q
theorem v_mul  (q : Rp (.int (z * k)) true) (h : CMul z k := by first | (left; constructor <;> omega) | (right; constructor <;> omega)) : MK_mul Rp z k := show mulM' (.int z) (.int k) Rp from .inl ⟨h, q⟩
theorem v_rev  (q : p η fun d _ => match d with | .lst xs => Rp (.lst xs.reverse) (immL xs) | .tup xs => Rp (.tup xs.reverse) (immL xs) | .ord ns => Rp (.ord ns.reverse) true | _ => False) : pRev p η Rp := q
instance iv_rev : Step (pRev p η Rp) (p η fun d _ => match d with | .lst xs => Rp (.lst xs.reverse) (immL xs) | .tup xs => Rp (.tup xs.reverse) (immL xs) | .ord ns => Rp (.ord ns.reverse) true | _ => False) := ⟨fun q => v_rev q⟩
theorem v_iEnP {Q : List D → Prop} (q : p η fun d _ => ∃ xs, ((d = .tup xs ∨ d = .lst xs) ∨ ∃ ns, d = .ord ns ∧ xs = ns.map .int) ∧ Q (enumD xs)) : iEnumP p η Q := q
instance iv_iEnP {Q : List D → Prop} : Step (iEnumP p η Q) (p η fun d _ => ∃ xs, ((d = .tup xs ∨ d = .lst xs) ∨ ∃ ns, d = .ord ns ∧ xs = ns.map .int) ∧ Q (enumD xs)) := ⟨fun q => v_iEnP q⟩
theorem v_iDicT  (q : τ X ρ fun d o ρ1 => o = true ∧ ∃ xs, keysD d = some xs ∧ RLc xs ρ1) : iDicT τ X ρ RLc := q
instance iv_iDicT : Step (iDicT τ X ρ RLc) (τ X ρ fun d o ρ1 => o = true ∧ ∃ xs, keysD d = some xs ∧ RLc xs ρ1) := ⟨fun q => v_iDicT q⟩
def MK1_forDo (ρ : Cells) (i : Nat) (X : EX) (E : DEnds) (γ : ETg) (t : ESt) : Prop := sForD i γ t X E ρ
theorem gv1_forDo  (q : MK1_forDo ρ i X E γ t) : sForD i γ t X E ρ := q
theorem v1_forDo  (q : ∃ xs, keysD d = some xs ∧ ∀ v9, forQ xs γ t (fun _ _ => False) { nx := fun ρ2 => keptCs ρ2 (ρ.set i (.lck d v9)) ∧ ∃ d2, ρ2[i]? = some (.lck d2 v9) ∧ E.nx (ρ2.set i (.own d2)), rt := fun x9 o9 ρ2 => o9 = true ∧ keptCs ρ2 (ρ.set i (.lck d v9)) ∧ ∃ d2, ρ2[i]? = some (.lck d2 v9) ∧ E.rt x9 o9 (ρ2.set i (.own d2)) } (ρ.set i (.lck d v9))) (h : ρ[i]? = some (.own d) := by exact rfl) : MK1_forDo ρ i X E γ t := show sForD i γ t X E ρ from by obtain ⟨xs9, hk9, q9⟩ := q; exact ⟨_, d, xs9, h, rfl, hk9, q9⟩
def MK1_forDr (ρ : Cells) (i : Nat) (X : EX) (E : DEnds) (γ : ETg) (t : ESt) : Prop := sForD i γ t X E ρ
theorem gv1_forDr  (q : MK1_forDr ρ i X E γ t) : sForD i γ t X E ρ := q
theorem v1_forDr  (q : ∃ xs, keysD d = some xs ∧ forQ xs γ t (fun _ _ => False) { nx := E.nx, rt := fun x9 o9 ρ2 => o9 = true ∧ E.rt x9 o9 ρ2 } ρ) (h : ρ[i]? = some (.ro d v) := by exact rfl) : MK1_forDr ρ i X E γ t := show sForD i γ t X E ρ from by obtain ⟨xs9, hk9, q9⟩ := q; exact ⟨_, d, xs9, h, rfl, hk9, q9⟩
def MK1_forDl (ρ : Cells) (i : Nat) (X : EX) (E : DEnds) (γ : ETg) (t : ESt) : Prop := sForD i γ t X E ρ
theorem gv1_forDl  (q : MK1_forDl ρ i X E γ t) : sForD i γ t X E ρ := q
theorem v1_forDl  (q : ∃ xs, keysD d = some xs ∧ forQ xs γ t (fun _ _ => False) { nx := E.nx, rt := fun x9 o9 ρ2 => o9 = true ∧ E.rt x9 o9 ρ2 } ρ) (h : ρ[i]? = some (.lck d v) := by exact rfl) : MK1_forDl ρ i X E γ t := show sForD i γ t X E ρ from by obtain ⟨xs9, hk9, q9⟩ := q; exact ⟨_, d, xs9, h, rfl, hk9, q9⟩
def MK_forDo (ρ : Cells) (i : Nat) (X : EX) (E : DEnds) (γ : ETg) (t : ESt) (u : ESt) : Prop := sSeq (sForD i γ t) u X E ρ
theorem gv_forDo  (q : MK_forDo ρ i X E γ t u) : sSeq (sForD i γ t) u X E ρ := q
theorem v_forDo  (q : ∃ xs, keysD d = some xs ∧ ∀ v9, forQ xs γ t (fun _ _ => False) { nx := fun ρ2 => keptCs ρ2 (ρ.set i (.lck d v9)) ∧ ∃ d2, ρ2[i]? = some (.lck d2 v9) ∧ (fun ρ9 => u X E ρ9) (ρ2.set i (.own d2)), rt := fun x9 o9 ρ2 => o9 = true ∧ keptCs ρ2 (ρ.set i (.lck d v9)) ∧ ∃ d2, ρ2[i]? = some (.lck d2 v9) ∧ E.rt x9 o9 (ρ2.set i (.own d2)) } (ρ.set i (.lck d v9))) (h : ρ[i]? = some (.own d) := by exact rfl) : MK_forDo ρ i X E γ t u := show sSeq (sForD i γ t) u X E ρ from by obtain ⟨xs9, hk9, q9⟩ := q; exact ⟨_, d, xs9, h, rfl, hk9, q9⟩
def MK_forDr (ρ : Cells) (i : Nat) (X : EX) (E : DEnds) (γ : ETg) (t : ESt) (u : ESt) : Prop := sSeq (sForD i γ t) u X E ρ
theorem gv_forDr  (q : MK_forDr ρ i X E γ t u) : sSeq (sForD i γ t) u X E ρ := q
theorem v_forDr  (q : ∃ xs, keysD d = some xs ∧ forQ xs γ t (fun _ _ => False) { nx := (fun ρ9 => u X E ρ9), rt := fun x9 o9 ρ2 => o9 = true ∧ E.rt x9 o9 ρ2 } ρ) (h : ρ[i]? = some (.ro d v) := by exact rfl) : MK_forDr ρ i X E γ t u := show sSeq (sForD i γ t) u X E ρ from by obtain ⟨xs9, hk9, q9⟩ := q; exact ⟨_, d, xs9, h, rfl, hk9, q9⟩
def MK_forDl (ρ : Cells) (i : Nat) (X : EX) (E : DEnds) (γ : ETg) (t : ESt) (u : ESt) : Prop := sSeq (sForD i γ t) u X E ρ
theorem gv_forDl  (q : MK_forDl ρ i X E γ t u) : sSeq (sForD i γ t) u X E ρ := q
theorem v_forDl  (q : ∃ xs, keysD d = some xs ∧ forQ xs γ t (fun _ _ => False) { nx := (fun ρ9 => u X E ρ9), rt := fun x9 o9 ρ2 => o9 = true ∧ E.rt x9 o9 ρ2 } ρ) (h : ρ[i]? = some (.lck d v) := by exact rfl) : MK_forDl ρ i X E γ t u := show sSeq (sForD i γ t) u X E ρ from by obtain ⟨xs9, hk9, q9⟩ := q; exact ⟨_, d, xs9, h, rfl, hk9, q9⟩
theorem v_eSl  (q : τ X ρ fun d o ρ1 => o = true ∧ tl X ρ1 fun l ρ2 => th X ρ2 fun u ρ3 => slM d l u fun d2 o2 => o2 = true ∧ R d2 true ρ3) : eSl τ tl th X ρ R := q
instance iv_eSl : Step (eSl τ tl th X ρ R) (τ X ρ fun d o ρ1 => o = true ∧ tl X ρ1 fun l ρ2 => th X ρ2 fun u ρ3 => slM d l u fun d2 o2 => o2 = true ∧ R d2 true ρ3) := ⟨fun q => v_eSl q⟩
theorem v_eoN  (q : Ro none ρ) : eoNone X ρ Ro := q
instance iv_eoN : Step (eoNone X ρ Ro) (Ro none ρ) := ⟨fun q => v_eoN q⟩
theorem v_eoS  (q : τ X ρ fun d _ ρ1 => ∃ i, d = .int i ∧ Ro (some i) ρ1) : eoSome τ X ρ Ro := q
instance iv_eoS : Step (eoSome τ X ρ Ro) (τ X ρ fun d _ ρ1 => ∃ i, d = .int i ∧ Ro (some i) ρ1) := ⟨fun q => v_eoS q⟩
theorem v_lenSet  (q : p η fun d _ => ∃ ns : List Int, d = .tup (ns.map .int) ∧ ns.length ≤ 1000 ∧ ∀ out : List Int, out.Nodup → (∀ k, k ∈ out ↔ k ∈ ns) → Rp (.int out.length) true) : pLenSet p η Rp := q
instance iv_lenSet : Step (pLenSet p η Rp) (p η fun d _ => ∃ ns : List Int, d = .tup (ns.map .int) ∧ ns.length ≤ 1000 ∧ ∀ out : List Int, out.Nodup → (∀ k, k ∈ out ↔ k ∈ ns) → Rp (.int out.length) true) := ⟨fun q => v_lenSet q⟩
theorem v_iEnK  (q : κ X ρ fun d ρ1 => ∃ xs, ((d = .tup xs ∨ d = .lst xs) ∨ ∃ ns, d = .ord ns ∧ xs = ns.map .int) ∧ RLc (enumD xs) ρ1) : iEnumK κ X ρ RLc := q
instance iv_iEnK : Step (iEnumK κ X ρ RLc) (κ X ρ fun d ρ1 => ∃ xs, ((d = .tup xs ∨ d = .lst xs) ∨ ∃ ns, d = .ord ns ∧ xs = ns.map .int) ∧ RLc (enumD xs) ρ1) := ⟨fun q => v_iEnK q⟩
theorem v_enT {Q : List D → Prop} (q : Q xs) : ∃ zs, (D.tup xs = .tup zs ∨ D.tup xs = .lst zs) ∧ Q zs := ⟨xs, .inl rfl, q⟩
instance iv_enT {Q : List D → Prop} : Step (∃ zs, (D.tup xs = .tup zs ∨ D.tup xs = .lst zs) ∧ Q zs) (Q xs) := ⟨fun q => v_enT q⟩
theorem v_enL {Q : List D → Prop} (q : Q xs) : ∃ zs, (D.lst xs = .tup zs ∨ D.lst xs = .lst zs) ∧ Q zs := ⟨xs, .inr rfl, q⟩
instance iv_enL {Q : List D → Prop} : Step (∃ zs, (D.lst xs = .tup zs ∨ D.lst xs = .lst zs) ∧ Q zs) (Q xs) := ⟨fun q => v_enL q⟩
def MK_div (Rp : DR) (z : Int) (k : Int) : Prop := fdivM (.int z) (.int k) Rp
theorem gv_div  (q : MK_div Rp z k) : fdivM (.int z) (.int k) Rp := q
theorem v_div  (q : Rp (.int (z / k)) true) (h : CDivV z k := by first | (constructor <;> omega)) : MK_div Rp z k := show fdivM (.int z) (.int k) Rp from ⟨h, q⟩
def MK_mod (Rp : DR) (z : Int) (k : Int) : Prop := modM (.int z) (.int k) Rp
theorem gv_mod  (q : MK_mod Rp z k) : modM (.int z) (.int k) Rp := q
theorem v_mod  (q : Rp (.int (z % k)) true) (h : 0 < k := by first | omega) : MK_mod Rp z k := show modM (.int z) (.int k) Rp from ⟨h, q⟩
def MK_pow (Rp : DR) (z : Int) (k : Int) : Prop := powM (.int z) (.int k) Rp
theorem gv_pow  (q : MK_pow Rp z k) : powM (.int z) (.int k) Rp := q
theorem v_pow  (q : Rp (.int (z ^ k.toNat)) true) (h : CPow z k := by first | (refine ⟨?_, ?_, ?_⟩ <;> omega)) : MK_pow Rp z k := show powM (.int z) (.int k) Rp from ⟨h, q⟩
theorem v_eqi  (q : Rp (.bl (z == k)) true) : eqM (.int z) (.int k) Rp := ⟨rfl, rfl, by simpa only [D.eqv] using q⟩
instance iv_eqi : Step (eqM (.int z) (.int k) Rp) (Rp (.bl (z == k)) true) := ⟨fun q => v_eqi q⟩
theorem v_nei  (q : Rp (.bl (!(z == k))) true) : neM (.int z) (.int k) Rp := ⟨rfl, rfl, by simpa only [D.eqv] using q⟩
instance iv_nei : Step (neM (.int z) (.int k) Rp) (Rp (.bl (!(z == k))) true) := ⟨fun q => v_nei q⟩
theorem v_isN  (q : Rp (.bl d.isN) true) : isNM d .non Rp := ⟨rfl, q⟩
instance iv_isN : Step (isNM d .non Rp) (Rp (.bl d.isN) true) := ⟨fun q => v_isN q⟩
theorem v_nisN  (q : Rp (.bl (!d.isN)) true) : notNM d .non Rp := ⟨rfl, q⟩
instance iv_nisN : Step (notNM d .non Rp) (Rp (.bl (!d.isN)) true) := ⟨fun q => v_nisN q⟩
theorem v_catS  (q : x.length + y.length ≤ sizeLine ∧ Rp (.str (x ++ y)) true) : addM (.str x) (.str y) Rp := .inr (.inl q)
instance iv_catS : Step (addM (.str x) (.str y) Rp) (x.length + y.length ≤ sizeLine ∧ Rp (.str (x ++ y)) true) := ⟨fun q => v_catS q⟩
theorem v_catL  (q : xs.length + ys.length ≤ sizeLine ∧ Rp (.lst (xs ++ ys)) (immL (xs ++ ys))) : addM (.lst xs) (.lst ys) Rp := .inr (.inl q)
instance iv_catL : Step (addM (.lst xs) (.lst ys) Rp) (xs.length + ys.length ≤ sizeLine ∧ Rp (.lst (xs ++ ys)) (immL (xs ++ ys))) := ⟨fun q => v_catL q⟩
theorem v_catT  (q : xs.length + ys.length ≤ sizeLine ∧ Rp (.tup (xs ++ ys)) (immL (xs ++ ys))) : addM (.tup xs) (.tup ys) Rp := .inr (.inl q)
instance iv_catT : Step (addM (.tup xs) (.tup ys) Rp) (xs.length + ys.length ≤ sizeLine ∧ Rp (.tup (xs ++ ys)) (immL (xs ++ ys))) := ⟨fun q => v_catT q⟩
theorem v_ixL  (q : ∃ d, atI xs z = some d ∧ Rp d d.imm) : ixM (.lst xs) (.int z) Rp := q
instance iv_ixL : Step (ixM (.lst xs) (.int z) Rp) (∃ d, atI xs z = some d ∧ Rp d d.imm) := ⟨fun q => v_ixL q⟩
theorem v_ixT  (q : ∃ d, atI xs z = some d ∧ Rp d d.imm) : ixM (.tup xs) (.int z) Rp := q
instance iv_ixT : Step (ixM (.tup xs) (.int z) Rp) (∃ d, atI xs z = some d ∧ Rp d d.imm) := ⟨fun q => v_ixT q⟩
theorem v_ixS {ls : List Int} (q : ∃ n, atI ls z = some n ∧ Rp (.int n) true) : ixM (.scr ls) (.int z) Rp := q
instance iv_ixS {ls : List Int} : Step (ixM (.scr ls) (.int z) Rp) (∃ n, atI ls z = some n ∧ Rp (.int n) true) := ⟨fun q => v_ixS q⟩
theorem v_catO {ls ms : List Int} (q : ls.length + ms.length ≤ sizeLine ∧ Rp (.ord (ls ++ ms)) true) : addM (.ord ls) (.ord ms) Rp := .inr (.inr q)
instance iv_catO {ls ms : List Int} : Step (addM (.ord ls) (.ord ms) Rp) (ls.length + ms.length ≤ sizeLine ∧ Rp (.ord (ls ++ ms)) true) := ⟨fun q => v_catO q⟩
theorem v_lenO {ls : List Int} (q : Rp (.int ls.length) true) : lenM [.ord ls] Rp := q
instance iv_lenO {ls : List Int} : Step (lenM [.ord ls] Rp) (Rp (.int ls.length) true) := ⟨fun q => v_lenO q⟩
theorem v_lisO {ls : List Int} (q : Rp (.lst (ls.map .int)) true) : listM [.ord ls] Rp := q
instance iv_lisO {ls : List Int} : Step (listM [.ord ls] Rp) (Rp (.lst (ls.map .int)) true) := ⟨fun q => v_lisO q⟩
theorem v_tuO {ls : List Int} (q : Rp (.ord ls) true) : tupleO [.lst (ls.map .int)] Rp := ⟨ls, toInts_map ls, q⟩
instance iv_tuO {ls : List Int} : Step (tupleO [.lst (ls.map .int)] Rp) (Rp (.ord ls) true) := ⟨fun q => v_tuO q⟩
theorem v_tuOO {ls : List Int} (q : Rp (.ord ls) true) : tupleO [.ord ls] Rp := q
instance iv_tuOO {ls : List Int} : Step (tupleO [.ord ls] Rp) (Rp (.ord ls) true) := ⟨fun q => v_tuOO q⟩
theorem v_srtO {ls : List Int} (q : Rp (.lst ((isort ls).map .int)) true) : sortedM [.ord ls] Rp := q
instance iv_srtO {ls : List Int} : Step (sortedM [.ord ls] Rp) (Rp (.lst ((isort ls).map .int)) true) := ⟨fun q => v_srtO q⟩
theorem v_srtT {ls : List Int} (q : Rp (.lst ((isort ls).map .int)) true) : sortedM [.tup (ls.map .int)] Rp := ⟨ls, toInts_map ls, q⟩
instance iv_srtT {ls : List Int} : Step (sortedM [.tup (ls.map .int)] Rp) (Rp (.lst ((isort ls).map .int)) true) := ⟨fun q => v_srtT q⟩
theorem v_inO {neg : Bool} {ls : List Int} (q : Rp (.bl (xor neg (decide (z ∈ ls)))) true) : inM neg (.int z) (.ord ls) Rp := ⟨z, rfl, q⟩
instance iv_inO {neg : Bool} {ls : List Int} : Step (inM neg (.int z) (.ord ls) Rp) (Rp (.bl (xor neg (decide (z ∈ ls)))) true) := ⟨fun q => v_inO q⟩
theorem v_slO {ls : List Int} {lo hi : Option Int} (q : Rp (.ord (cutA ls lo hi)) true) : slM (.ord ls) lo hi Rp := q
instance iv_slO {ls : List Int} {lo hi : Option Int} : Step (slM (.ord ls) lo hi Rp) (Rp (.ord (cutA ls lo hi)) true) := ⟨fun q => v_slO q⟩
theorem v_pIdx {mk : List D → D} {p2 : PTr} (q : p η fun d _ => ∃ ns : List Int, d = mk (ns.map .int) ∧ p2 η fun k _ => ∃ (z : Int) (j : Nat), k = .int z ∧ ns[j]? = some z ∧ (∀ m, m < j → ns[m]? ≠ some z) ∧ Rp (.int (j : Nat)) true) : pIdx mk p p2 η Rp := q
instance iv_pIdx {mk : List D → D} {p2 : PTr} : Step (pIdx mk p p2 η Rp) (p η fun d _ => ∃ ns : List Int, d = mk (ns.map .int) ∧ p2 η fun k _ => ∃ (z : Int) (j : Nat), k = .int z ∧ ns[j]? = some z ∧ (∀ m, m < j → ns[m]? ≠ some z) ∧ Rp (.int (j : Nat)) true) := ⟨fun q => v_pIdx q⟩
theorem v_pIdxO {p2 : PTr} (q : p η fun d _ => ∃ ns : List Int, d = .ord ns ∧ p2 η fun k _ => ∃ (z : Int) (j : Nat), k = .int z ∧ ns[j]? = some z ∧ (∀ m, m < j → ns[m]? ≠ some z) ∧ Rp (.int (j : Nat)) true) : pIdxO p p2 η Rp := q
instance iv_pIdxO {p2 : PTr} : Step (pIdxO p p2 η Rp) (p η fun d _ => ∃ ns : List Int, d = .ord ns ∧ p2 η fun k _ => ∃ (z : Int) (j : Nat), k = .int z ∧ ns[j]? = some z ∧ (∀ m, m < j → ns[m]? ≠ some z) ∧ Rp (.int (j : Nat)) true) := ⟨fun q => v_pIdxO q⟩
theorem v_pTupO  (q : ps η fun ds _ => ∃ ns, ds = ns.map .int ∧ ns.length ≤ sizeLine ∧ Rp (.ord ns) true) : pTupO ps η Rp := q
instance iv_pTupO : Step (pTupO ps η Rp) (ps η fun ds _ => ∃ ns, ds = ns.map .int ∧ ns.length ≤ sizeLine ∧ Rp (.ord ns) true) := ⟨fun q => v_pTupO q⟩
theorem v_eTupO  (q : es X ρ fun ds ρ1 => ∃ ns, ds = ns.map .int ∧ ns.length ≤ sizeLine ∧ R (.ord ns) true ρ1) : eTupO es X ρ R := q
instance iv_eTupO : Step (eTupO es X ρ R) (es X ρ fun ds ρ1 => ∃ ns, ds = ns.map .int ∧ ns.length ≤ sizeLine ∧ R (.ord ns) true ρ1) := ⟨fun q => v_eTupO q⟩
theorem v_eRemove  (q : (∃ c xs, ρ[i]? = some c ∧ c.data = some (.lst xs)) ∧ τ X ρ fun k o ρ1 => o = true ∧ ∃ c, ∃ ns : List Int, ∃ (z : Int) (j : Nat), k = .int z ∧ ρ1[i]? = some c ∧ c.mutD = some (.lst (ns.map .int)) ∧ ns[j]? = some z ∧ (∀ m, m < j → ns[m]? ≠ some z) ∧ R .non true (ρ1.set i (reC c (.lst ((ns.eraseIdx j).map .int))))) : eRemove i τ X ρ R := q
instance iv_eRemove : Step (eRemove i τ X ρ R) ((∃ c xs, ρ[i]? = some c ∧ c.data = some (.lst xs)) ∧ τ X ρ fun k o ρ1 => o = true ∧ ∃ c, ∃ ns : List Int, ∃ (z : Int) (j : Nat), k = .int z ∧ ρ1[i]? = some c ∧ c.mutD = some (.lst (ns.map .int)) ∧ ns[j]? = some z ∧ (∀ m, m < j → ns[m]? ≠ some z) ∧ R .non true (ρ1.set i (reC c (.lst ((ns.eraseIdx j).map .int))))) := ⟨fun q => v_eRemove q⟩
theorem v_eRevL  (q : ∃ c xs, ρ[i]? = some c ∧ c.mutD = some (.lst xs) ∧ immL xs = true ∧ R .non true (ρ.set i (reC c (.lst xs.reverse)))) : eRevL i X ρ R := q
instance iv_eRevL : Step (eRevL i X ρ R) (∃ c xs, ρ[i]? = some c ∧ c.mutD = some (.lst xs) ∧ immL xs = true ∧ R .non true (ρ.set i (reC c (.lst xs.reverse)))) := ⟨fun q => v_eRevL q⟩
theorem v_eInsert {p2 : PTr} (q : ∃ c, ∃ ns : List Int, ρ[i]? = some c ∧ c.mutD = some (.lst (ns.map .int)) ∧ p (mkE X ρ) fun dk _ => p2 (mkE X ρ) fun dx _ => ∃ (k z : Int), dk = .int k ∧ dx = .int z ∧ 0 ≤ k ∧ k < 2 ^ 63 ∧ ns.length < sizeLine ∧ R .non true (ρ.set i (reC c (.lst ((ns.take k.toNat ++ [z] ++ ns.drop k.toNat).map .int))))) : eInsert i p p2 X ρ R := q
instance iv_eInsert {p2 : PTr} : Step (eInsert i p p2 X ρ R) (∃ c, ∃ ns : List Int, ρ[i]? = some c ∧ c.mutD = some (.lst (ns.map .int)) ∧ p (mkE X ρ) fun dk _ => p2 (mkE X ρ) fun dx _ => ∃ (k z : Int), dk = .int k ∧ dx = .int z ∧ 0 ≤ k ∧ k < 2 ^ 63 ∧ ns.length < sizeLine ∧ R .non true (ρ.set i (reC c (.lst ((ns.take k.toNat ++ [z] ++ ns.drop k.toNat).map .int))))) := ⟨fun q => v_eInsert q⟩
theorem v_maxL {ls : List Int} (q : ls ≠ [] ∧ ∀ m, m ∈ ls → (∀ y ∈ ls, y ≤ m) → Rp (.int m) true) : maxLM [.lst (ls.map .int)] Rp := ⟨ls, toInts_map ls, q.1, q.2⟩
instance iv_maxL {ls : List Int} : Step (maxLM [.lst (ls.map .int)] Rp) (ls ≠ [] ∧ ∀ m, m ∈ ls → (∀ y ∈ ls, y ≤ m) → Rp (.int m) true) := ⟨fun q => v_maxL q⟩
theorem v_lenL  (q : Rp (.int xs.length) true) : lenM [.lst xs] Rp := q
instance iv_lenL : Step (lenM [.lst xs] Rp) (Rp (.int xs.length) true) := ⟨fun q => v_lenL q⟩
theorem v_lenT  (q : Rp (.int xs.length) true) : lenM [.tup xs] Rp := q
instance iv_lenT : Step (lenM [.tup xs] Rp) (Rp (.int xs.length) true) := ⟨fun q => v_lenT q⟩
theorem v_lenS {ls : List Int} (q : Rp (.int ls.length) true) : lenM [.scr ls] Rp := q
instance iv_lenS {ls : List Int} : Step (lenM [.scr ls] Rp) (Rp (.int ls.length) true) := ⟨fun q => v_lenS q⟩
theorem v_lenK {kv : List (Key × D)} (q : Rp (.int kv.length) true) : lenM [.dK kv] Rp := q
instance iv_lenK {kv : List (Key × D)} : Step (lenM [.dK kv] Rp) (Rp (.int kv.length) true) := ⟨fun q => v_lenK q⟩
theorem v_lenD {kv : List (List Key × D)} (q : Rp (.int kv.length) true) : lenM [.dT kv] Rp := q
instance iv_lenD {kv : List (List Key × D)} : Step (lenM [.dT kv] Rp) (Rp (.int kv.length) true) := ⟨fun q => v_lenD q⟩
theorem v_tupL  (q : Rp (.tup xs) (immL xs)) : tupleM [.lst xs] Rp := q
instance iv_tupL : Step (tupleM [.lst xs] Rp) (Rp (.tup xs) (immL xs)) := ⟨fun q => v_tupL q⟩
theorem v_tupT  (q : Rp (.tup xs) (immL xs)) : tupleM [.tup xs] Rp := q
instance iv_tupT : Step (tupleM [.tup xs] Rp) (Rp (.tup xs) (immL xs)) := ⟨fun q => v_tupT q⟩
theorem v_lisL  (q : Rp (.lst xs) (immL xs)) : listM [.lst xs] Rp := q
instance iv_lisL : Step (listM [.lst xs] Rp) (Rp (.lst xs) (immL xs)) := ⟨fun q => v_lisL q⟩
theorem v_lisT  (q : Rp (.lst xs) (immL xs)) : listM [.tup xs] Rp := q
instance iv_lisT : Step (listM [.tup xs] Rp) (Rp (.lst xs) (immL xs)) := ⟨fun q => v_lisT q⟩
theorem v_min2  (q : Rp (.int (if k < z then k else z)) true) : min2M' [.int z, .int k] Rp := .inl q
instance iv_min2 : Step (min2M' [.int z, .int k] Rp) (Rp (.int (if k < z then k else z)) true) := ⟨fun q => v_min2 q⟩
theorem v_max2  (q : Rp (.int (if k > z then k else z)) true) : max2M [.int z, .int k] Rp := q
instance iv_max2 : Step (max2M [.int z, .int k] Rp) (Rp (.int (if k > z then k else z)) true) := ⟨fun q => v_max2 q⟩
theorem v_srtI {ls : List Int} (q : Rp (.lst ((isort ls).map .int)) true) : sortedM [.lst (ls.map .int)] Rp := .inl ⟨ls, toInts_map ls, q⟩
instance iv_srtI {ls : List Int} : Step (sortedM [.lst (ls.map .int)] Rp) (Rp (.lst ((isort ls).map .int)) true) := ⟨fun q => v_srtI q⟩
theorem v_srtP {ls : List (Int × Int)} (q : Rp (.lst ((psort ls).map prD)) true) : sortedM [.lst (ls.map prD)] Rp := .inr ⟨ls, toPrs_map ls, q⟩
instance iv_srtP {ls : List (Int × Int)} : Step (sortedM [.lst (ls.map prD)] Rp) (Rp (.lst ((psort ls).map prD)) true) := ⟨fun q => v_srtP q⟩
theorem v_allB {bs : List Bool} (q : Rp (.bl (bs.all id)) true) : allM [.lst (bs.map .bl)] Rp := ⟨bs, toBls_map bs, q⟩
instance iv_allB {bs : List Bool} : Step (allM [.lst (bs.map .bl)] Rp) (Rp (.bl (bs.all id)) true) := ⟨fun q => v_allB q⟩
theorem v_anyB {bs : List Bool} (q : Rp (.bl (bs.any id)) true) : anyM [.lst (bs.map .bl)] Rp := ⟨bs, toBls_map bs, q⟩
instance iv_anyB {bs : List Bool} : Step (anyM [.lst (bs.map .bl)] Rp) (Rp (.bl (bs.any id)) true) := ⟨fun q => v_anyB q⟩
theorem v_allP {β : Type} {l : List β} {pp : β → Bool} (q : Rp (.bl (l.all pp)) true) : allM [.lst (l.map fun a => .bl (pp a))] Rp := by refine ⟨l.map pp, ?_, ?_⟩; (rw [← toBls_map, List.map_map]; rfl); (rw [List.all_map]; exact q)
instance iv_allP {β : Type} {l : List β} {pp : β → Bool} : Step (allM [.lst (l.map fun a => .bl (pp a))] Rp) (Rp (.bl (l.all pp)) true) := ⟨fun q => v_allP q⟩
theorem v_anyP {β : Type} {l : List β} {pp : β → Bool} (q : Rp (.bl (l.any pp)) true) : anyM [.lst (l.map fun a => .bl (pp a))] Rp := by refine ⟨l.map pp, ?_, ?_⟩; (rw [← toBls_map, List.map_map]; rfl); (rw [List.any_map]; exact q)
instance iv_anyP {β : Type} {l : List β} {pp : β → Bool} : Step (anyM [.lst (l.map fun a => .bl (pp a))] Rp) (Rp (.bl (l.any pp)) true) := ⟨fun q => v_anyP q⟩
theorem v_srtPm {β : Type} {l : List β} {pp : β → Int × Int} (q : Rp (.lst ((psort (l.map pp)).map prD)) true) : sortedM [.lst (l.map fun a => prD (pp a))] Rp := .inr ⟨l.map pp, by rw [← toPrs_map, List.map_map]; rfl, q⟩
instance iv_srtPm {β : Type} {l : List β} {pp : β → Int × Int} : Step (sortedM [.lst (l.map fun a => prD (pp a))] Rp) (Rp (.lst ((psort (l.map pp)).map prD)) true) := ⟨fun q => v_srtPm q⟩
theorem v_srtIm {β : Type} {l : List β} {pp : β → Int} (q : Rp (.lst ((isort (l.map pp)).map .int)) true) : sortedM [.lst (l.map fun a => .int (pp a))] Rp := .inl ⟨l.map pp, by rw [← toInts_map, List.map_map]; rfl, q⟩
instance iv_srtIm {β : Type} {l : List β} {pp : β → Int} : Step (sortedM [.lst (l.map fun a => .int (pp a))] Rp) (Rp (.lst ((isort (l.map pp)).map .int)) true) := ⟨fun q => v_srtIm q⟩
theorem v_ltP {a2 b2 : Int × Int} (q : Rp (.bl (HT.lexLt [a2.1, a2.2] [b2.1, b2.2])) true) : ltM (prD a2) (prD b2) Rp := .inr ⟨_, _, rfl, rfl, q⟩
instance iv_ltP {a2 b2 : Int × Int} : Step (ltM (prD a2) (prD b2) Rp) (Rp (.bl (HT.lexLt [a2.1, a2.2] [b2.1, b2.2])) true) := ⟨fun q => v_ltP q⟩
theorem v_xb  (q : RB o) : ∃ k', D.bl o = .bl k' ∧ RB k' := ⟨_, rfl, q⟩
instance iv_xb : Step (∃ k', D.bl o = .bl k' ∧ RB k') (RB o) := ⟨fun q => v_xb q⟩
theorem v_xi {RI : Int → Prop} (q : RI z) : ∃ k', D.int z = .int k' ∧ RI k' := ⟨_, rfl, q⟩
instance iv_xi {RI : Int → Prop} : Step (∃ k', D.int z = .int k' ∧ RI k') (RI z) := ⟨fun q => v_xi q⟩
theorem v_xl1 {RI : Int → Prop} (q : RI z) : ∃ n : Int, [D.int z] = [.int n] ∧ RI n := ⟨_, rfl, q⟩
instance iv_xl1 {RI : Int → Prop} : Step (∃ n : Int, [D.int z] = [.int n] ∧ RI n) (RI z) := ⟨fun q => v_xl1 q⟩
theorem v_xl2 {RI : Int → Int → Prop} (q : RI z k) : ∃ l n : Int, [D.int z, D.int k] = [.int l, .int n] ∧ RI l n := ⟨_, _, rfl, q⟩
instance iv_xl2 {RI : Int → Int → Prop} : Step (∃ l n : Int, [D.int z, D.int k] = [.int l, .int n] ∧ RI l n) (RI z k) := ⟨fun q => v_xl2 q⟩
def MK_xtu (Q : List D → Prop) (xs : List D) (n : Nat) : Prop := ∃ ds9, D.tup xs = .tup ds9 ∧ ds9.length = n ∧ Q ds9
theorem gv_xtu {Q : List D → Prop} (q : MK_xtu Q xs n) : ∃ ds9, D.tup xs = .tup ds9 ∧ ds9.length = n ∧ Q ds9 := q
theorem v_xtu {Q : List D → Prop} (q : Q xs) (h : xs.length = n := by exact rfl) : MK_xtu Q xs n := show ∃ ds9, D.tup xs = .tup ds9 ∧ ds9.length = n ∧ Q ds9 from ⟨xs, rfl, h, q⟩
theorem v_xpr {a2 : Int × Int} {Q : List D → Prop} (q : Q [.int a2.1, .int a2.2]) : ∃ ds9, prD a2 = .tup ds9 ∧ ds9.length = 2 ∧ Q ds9 := ⟨_, rfl, rfl, q⟩
instance iv_xpr {a2 : Int × Int} {Q : List D → Prop} : Step (∃ ds9, prD a2 = .tup ds9 ∧ ds9.length = 2 ∧ Q ds9) (Q [.int a2.1, .int a2.2]) := ⟨fun q => v_xpr q⟩
def MK_ixk (Q : D → Prop) (da : D) (db : D) : Prop := ∃ d9, ixK da db = some d9 ∧ Q d9
theorem gv_ixk {Q : D → Prop} (q : MK_ixk Q da db) : ∃ d9, ixK da db = some d9 ∧ Q d9 := q
theorem v_ixk {Q : D → Prop} (q : Q d) (h : ixK da db = some d := by exact rfl) : MK_ixk Q da db := show ∃ d9, ixK da db = some d9 ∧ Q d9 from ⟨d, h, q⟩
def MK_setLt (d : D) (ρ : Cells) (i : Nat) (N : Cells → Prop) (z : Int) : Prop := ∃ c9 xs9 j9 k9, ρ[i]? = some c9 ∧ c9.mutD = some (.lst xs9) ∧ immL xs9 = true ∧ D.int z = .int j9 ∧ ixN xs9.length j9 = some k9 ∧ N (ρ.set i (reC c9 (.lst (xs9.set k9 d))))
theorem gv_setLt  (q : MK_setLt d ρ i N z) : ∃ c9 xs9 j9 k9, ρ[i]? = some c9 ∧ c9.mutD = some (.lst xs9) ∧ immL xs9 = true ∧ D.int z = .int j9 ∧ ixN xs9.length j9 = some k9 ∧ N (ρ.set i (reC c9 (.lst (xs9.set k9 d)))) := q
theorem v_setLt {c8 : Cell} {ws : List D} {k8 : Nat} (q : N (ρ.set i (reC c8 (.lst (ws.set k8 d))))) (h1 : ρ[i]? = some c8 := by exact rfl) (h2 : c8.mutD = some (.lst ws) := by exact rfl) (h3 : immL ws = true := by first | exact rfl | assumption | (simp only [D.imm, immL, immL_ints, immL_prs, prD, Bool.and_true, *] <;> fail)) (h4 : ixN ws.length z = some k8 := by exact rfl) : MK_setLt d ρ i N z := show ∃ c9 xs9 j9 k9, ρ[i]? = some c9 ∧ c9.mutD = some (.lst xs9) ∧ immL xs9 = true ∧ D.int z = .int j9 ∧ ixN xs9.length j9 = some k9 ∧ N (ρ.set i (reC c9 (.lst (xs9.set k9 d)))) from ⟨c8, ws, z, k8, h1, h2, h3, rfl, h4, q⟩
theorem v_nil {C : Prop} (q : C) : ([] : List D) = [] ∧ C := ⟨rfl, q⟩
instance iv_nil {C : Prop} : Step (([] : List D) = [] ∧ C) (C) := ⟨fun q => v_nil q⟩
def MK_ot (C : Prop) (o : Bool) : Prop := o = true ∧ C
theorem gv_ot {C : Prop} (q : MK_ot C o) : o = true ∧ C := q
theorem v_ot {C : Prop} (q : C) (ho : o = true := by first | exact rfl | assumption | (simp only [D.imm, immL, immL_ints, immL_prs, prD, Bool.and_true, Bool.true_and, *] <;> fail)) : MK_ot C o := show o = true ∧ C from ⟨ho, q⟩
def MK_sz (C : Prop) (xs : List D) : Prop := xs.length ≤ sizeLine ∧ C
theorem gv_sz {C : Prop} (q : MK_sz C xs) : xs.length ≤ sizeLine ∧ C := q
theorem v_sz {C : Prop} (q : C) (h : Nat.ble xs.length 1000 = true := by exact rfl) : MK_sz C xs := show xs.length ≤ sizeLine ∧ C from ⟨Nat.le_trans (Nat.le_of_ble_eq_true h) (by decide), q⟩
def MK_there (C : Prop) (ρ : Cells) (i : Nat) : Prop := (∃ c9 d9, ρ[i]? = some c9 ∧ c9.data = some d9) ∧ C
theorem gv_there {C : Prop} (q : MK_there C ρ i) : (∃ c9 d9, ρ[i]? = some c9 ∧ c9.data = some d9) ∧ C := q
theorem v_there {C : Prop} (q : C) (h : (ρ[i]?).bind Cell.data = some d := by first | exact rfl | exact entR_data _ _ | exact entP_data _ _) : MK_there C ρ i := show (∃ c9 d9, ρ[i]? = some c9 ∧ c9.data = some d9) ∧ C from ⟨look_there h, q⟩
theorem v_itt {A B : Prop} (q : A) : if true = true then A else B := by rw [if_pos rfl]; exact q
instance iv_itt {A B : Prop} : Step (if true = true then A else B) (A) := ⟨fun q => v_itt q⟩
theorem v_itf {A B : Prop} (q : B) : if false = true then A else B := by rw [if_neg Bool.false_ne_true]; exact q
instance iv_itf {A B : Prop} : Step (if false = true then A else B) (B) := ⟨fun q => v_itf q⟩
def MK_ifT (A : Prop) (B : Prop) (o : Bool) : Prop := if o = true then A else B
theorem gv_ifT {A B : Prop} (q : MK_ifT A B o) : if o = true then A else B := q
theorem v_ifT {A B : Prop} (q : A) (h : o = true := by first | assumption | decide | (simp only [List.length_cons, List.length_nil, Nat.zero_add, Nat.reduceAdd, Int.cast_ofNat_Int, beq_self_eq_true, Bool.not_true, Bool.not_false, Int.reduceBEq, Int.reduceLT, Int.reduceLE, decide_true, decide_false] <;> fail)) : MK_ifT A B o := show if o = true then A else B from by rw [if_pos h]; exact q
def MK_ifF (A : Prop) (B : Prop) (o : Bool) : Prop := if o = true then A else B
theorem gv_ifF {A B : Prop} (q : MK_ifF A B o) : if o = true then A else B := q
theorem v_ifF {A B : Prop} (q : B) (h : o = false := by first | assumption | decide | (simp only [List.length_cons, List.length_nil, Nat.zero_add, Nat.reduceAdd, Int.cast_ofNat_Int, beq_self_eq_true, Bool.not_true, Bool.not_false, Int.reduceBEq, Int.reduceLT, Int.reduceLE, decide_true, decide_false] <;> fail)) : MK_ifF A B o := show if o = true then A else B from by rw [h, if_neg Bool.false_ne_true]; exact q
def MK_at (Q : D → Prop) (xs : List D) (z : Int) : Prop := ∃ d9, atI xs z = some d9 ∧ Q d9
theorem gv_at {Q : D → Prop} (q : MK_at Q xs z) : ∃ d9, atI xs z = some d9 ∧ Q d9 := q
theorem v_at {Q : D → Prop} (q : Q d) (h : atI xs z = some d := by exact rfl) : MK_at Q xs z := show ∃ d9, atI xs z = some d9 ∧ Q d9 from ⟨d, h, q⟩
def MK_ty (RS : String → Prop) (d : D) : Prop := ∃ t9, d.tyN = some t9 ∧ RS t9
theorem gv_ty {RS : String → Prop} (q : MK_ty RS d) : ∃ t9, d.tyN = some t9 ∧ RS t9 := q
theorem v_ty {RS : String → Prop} {s : String} (q : RS s) (h : d.tyN = some s := by exact rfl) : MK_ty RS d := show ∃ t9, d.tyN = some t9 ∧ RS t9 from ⟨s, h, q⟩
theorem v_ite {A B : Prop} (h1 : o = true → A) (h2 : o = false → B) : if o = true then A else B := by
  cases o
  · rw [if_neg Bool.false_ne_true]; exact h2 rfl
  · rw [if_pos rfl]; exact h1 rfl
end

end DL

namespace DL
open PySem PySem.Spec PyProof.Rows L2
set_option linter.all false
set_option Elab.async false
set_option maxRecDepth 100000
set_option maxHeartbeats 1000000
local macro_rules | `(tactic| iterate 7769 fail) => `(tactic| first | ((with_reducible refine gv_bt ?_); refine v_bt ?_) | ((with_reducible refine gv_bf ?_); refine v_bf ?_) | ((with_reducible refine gv_eTi ?_); refine v_eTi ?_) | ((with_reducible refine gv_eTn ?_); refine v_eTn ?_) | ((with_reducible refine gv_eTo ?_); refine v_eTo ?_) | ((with_reducible refine gv_eTp ?_); refine v_eTp ?_) | ((with_reducible refine gv_eTr ?_); refine v_eTr ?_) | ((with_reducible refine gv_kNr ?_); refine v_kNr ?_) | ((with_reducible refine gv_kNi ?_); refine v_kNi ?_) | ((with_reducible refine gv_kNo ?_); refine v_kNo ?_) | ((with_reducible refine gv_pLcK ?_); refine v_pLcK ?_) | ((with_reducible refine gv_pLcT ?_); refine v_pLcT ?_) | ((with_reducible refine gv_mul ?_); refine v_mul ?_) | ((with_reducible refine gv1_forDo ?_); refine v1_forDo ?_) | ((with_reducible refine gv1_forDr ?_); refine v1_forDr ?_) | ((with_reducible refine gv1_forDl ?_); refine v1_forDl ?_) | ((with_reducible refine gv_forDo ?_); refine v_forDo ?_) | ((with_reducible refine gv_forDr ?_); refine v_forDr ?_) | ((with_reducible refine gv_forDl ?_); refine v_forDl ?_) | with_reducible refine v_maxLen ?_ | ((with_reducible refine gv_div ?_); refine v_div ?_) | ((with_reducible refine gv_mod ?_); refine v_mod ?_) | ((with_reducible refine gv_pow ?_); refine v_pow ?_) | ((with_reducible refine gv_xtu ?_); refine v_xtu ?_) | ((with_reducible refine gv_ixk ?_); refine v_ixk ?_) | ((with_reducible refine gv_setLt ?_); refine v_setLt ?_) | ((with_reducible refine gv_ot ?_); refine v_ot ?_) | ((with_reducible refine gv_sz ?_); refine v_sz ?_) | ((with_reducible refine gv_there ?_); refine v_there ?_) | ((with_reducible refine gv_ifT ?_); refine v_ifT ?_) | ((with_reducible refine gv_ifF ?_); refine v_ifF ?_) | ((with_reducible refine gv_at ?_); refine v_at ?_) | ((with_reducible refine gv_ty ?_); refine v_ty ?_))
local macro_rules | `(tactic| iterate 7773 skip) => `(tactic| try simp only [putF, newC, List.set_cons_succ, List.set_cons_zero, List.getElem?_cons_zero, List.getElem?_cons_succ, true_and])
local macro_rules | `(tactic| iterate 7770 skip) => `(tactic| simp only [entC, List.zipWith, List.length_cons, List.length_nil, List.replicate, Nat.reduceSub, Nat.reduceAdd, List.cons_append, List.nil_append, List.append_nil, entR_int, entR_bl, entR_str, entR_non, entR_lst, entR_dK, entR_dT, entR_scr, entP_int, entP_lst])
local macro_rules | `(tactic| iterate 7771 skip) => `(tactic| repeat' (first | with_reducible refine stp ?_ | ((with_reducible refine gv_pN ?_); refine v_pN ?_) | ((with_reducible refine gv_pN2 ?_); refine v_pN2 ?_) | iterate 7769 fail))
local macro_rules | `(tactic| iterate 7772 skip) => `(tactic| repeat' (first | with_reducible refine stp ?_ | ((with_reducible refine gv_pN ?_); refine v_pN ?_) | ((with_reducible refine gv_pN2 ?_); refine v_pN2 ?_) | iterate 7769 fail | with_reducible refine v_ite (fun _ => ?_) (fun _ => ?_)))
/-! ## LA: nets -/
def D.isInt : D → Bool
  | .int _ => true
  | _ => false
def D.plain (d : D) : Prop := ∃ t, d.tyN = some t
def m_is_whole : DCX := fun ds R Ex => ∃ d, ds = [d] ∧ d.plain ∧ R (.bl d.isInt) true
theorem len_is_whole {ds R Ex} (h : m_is_whole ds R Ex) : ds.length = 1 := by obtain ⟨d, rfl, _⟩ := h; rfl
/- slots: 0 thing -/
def t_is_whole : ESt := (sRet (ePure (pAnd (pIsi "int" (pName 0)) (pNot (pIsi "bool" (pName 0))))))

theorem w_is_whole {ds : List D} {R : DR} {Ex : Value → Prop} {vs : List V} (hm : m_is_whole ds R Ex) (hl : vs.length = ds.length) : t_is_whole (fun cls _ => Ex cls) { nx := fun _ => R .non true, rt := fun d o _ => R d o } (entC 1 entR ds vs) := by
  obtain ⟨d, rfl, ⟨t, ht⟩, hr⟩ := hm
  obtain ⟨v, rfl⟩ := vs1 hl
  iterate 7770 skip
  unfold t_is_whole
  iterate 7771 skip
  refine ⟨t, ht, ?_⟩
  iterate 7772 skip
  · refine ⟨t, ht, ?_⟩
    iterate 7771 skip
    cases d <;> simp [D.tyN] at ht <;> subst ht <;> simp_all [isT, D.isInt]
  · cases d <;> simp [D.tyN] at ht <;> subst ht <;> simp_all [isT, D.isInt]
def D.isPlace : D → Int → Bool
  | .int i, n => decide (0 ≤ i) && decide (i < n)
  | _, _ => false
def m_is_place : DCX := fun ds R Ex => ∃ d n, ds = [d, .int n] ∧ d.plain ∧ R (.bl (d.isPlace n)) true
theorem len_is_place {ds R Ex} (h : m_is_place ds R Ex) : ds.length = 2 := by obtain ⟨d, n, rfl, _⟩ := h; rfl
/- slots: 0 thing 1 many -/
def t_is_place : ESt := (sRet (ePure (pAnd (pCallX m_is_whole (aCons (pName 0) aNil)) (pChain leM ltM (pC (.int 0)) (pName 0) (pName 1)))))

theorem w_is_place {ds : List D} {R : DR} {Ex : Value → Prop} {vs : List V} (hm : m_is_place ds R Ex) (hl : vs.length = ds.length) : t_is_place (fun cls _ => Ex cls) { nx := fun _ => R .non true, rt := fun d o _ => R d o } (entC 2 entR ds vs) := by
  obtain ⟨d, n, rfl, hp, hr⟩ := hm
  obtain ⟨v, v2, rfl⟩ := vs2 hl
  iterate 7770 skip
  unfold t_is_place
  iterate 7771 skip
  refine ⟨d, rfl, hp, ?_⟩
  iterate 7772 skip
  · rename_i h
    cases d <;> simp [D.isInt] at h
    iterate 7772 skip
    all_goals simp_all [D.isPlace]
  · rename_i h
    cases d <;> simp_all [D.isInt, D.isPlace]
/-! ### nets -/
structure Net where
  n : Int
  lanes : List (Int × Int)
def netD (N : Net) : D := .tup [.int N.n, .tup (N.lanes.map prD)]
theorem netD_imm (N : Net) : (netD N).imm = true := by simp [netD, D.imm, immL, immL_prs]
theorem prDs_inj {l m : List (Int × Int)} (h : l.map prD = m.map prD) : l = m := by
  have := congrArg toPrs h
  rw [toPrs_map, toPrs_map] at this
  exact Option.some.inj this
def laneOk (n : Int) (p : Int × Int) : Bool := decide (0 ≤ p.1) && decide (p.1 < n) && (decide (0 ≤ p.2) && decide (p.2 < n) && !(p.1 == p.2))
theorem v_is_place {i n : Int} {R : DR} {Ex : Value → Prop} (q : R (.bl (decide (0 ≤ i) && decide (i < n))) true) : m_is_place [.int i, .int n] R Ex := ⟨.int i, n, rfl, ⟨_, rfl⟩, q⟩
instance iv_is_place {i n : Int} {R : DR} {Ex : Value → Prop} : Step (m_is_place [.int i, .int n] R Ex) (R (.bl (decide (0 ≤ i) && decide (i < n))) true) := ⟨fun q => v_is_place q⟩
theorem entR_pr (p : Int × Int) (v : V) : entR (prD p) v = .own (.tup [.int p.1, .int p.2]) := rfl
theorem atI_nat {α : Type} {l : List α} {k : Nat} {x : α} (h : l[k]? = some x) : atI l (k : Int) = some x := by
  have := (List.getElem?_eq_some_iff.mp h).1
  unfold atI ixN
  rw [if_pos (by omega), if_pos (by omega)]
  simpa using h
theorem atI_int {α : Type} {l : List α} {k : Int} {x : α} (h0 : 0 ≤ k) (h : l[k.toNat]? = some x) : atI l k = some x := by
  have := atI_nat h
  rwa [Int.toNat_of_nonneg h0] at this
theorem getD_at {α : Type} {l : List α} {k : Nat} {d : α} (h : k < l.length) : l[k]? = some (l.getD k d) := by
  rw [List.getElem?_eq_getElem h, List.getD_eq_getElem?_getD, List.getElem?_eq_getElem h]; rfl
def pltB (p q : Int × Int) : Bool := HT.lexLt [p.1, p.2] [q.1, q.2]
def isNetB (N : Net) : Bool := decide (1 ≤ N.n) && decide (N.n ≤ 24) && decide (N.lanes.length ≤ 120) && N.lanes.all (laneOk N.n) && (List.range (N.lanes.length - 1)).all fun i => pltB (N.lanes.getD i (0, 0)) (N.lanes.getD (i + 1) (0, 0))
theorem entR_net (N : Net) (v : V) : entR (netD N) v = .own (.tup [.int N.n, .tup (N.lanes.map prD)]) := entR_imm (netD_imm N) v
theorem v_is_whole {i : Int} {R : DR} {Ex : Value → Prop} (q : R (.bl true) true) : m_is_whole [.int i] R Ex := ⟨.int i, rfl, ⟨_, rfl⟩, q⟩
instance iv_is_whole {i : Int} {R : DR} {Ex : Value → Prop} : Step (m_is_whole [.int i] R Ex) (R (.bl true) true) := ⟨fun q => v_is_whole q⟩

open PySem PySem.Spec PyProof.Rows L2
set_option linter.all false
set_option Elab.async false
set_option maxRecDepth 100000
set_option maxHeartbeats 1000000
local macro_rules | `(tactic| iterate 7773 skip) => `(tactic| try simp only [putF, newC, List.set_cons_succ, List.set_cons_zero, List.getElem?_cons_zero, List.getElem?_cons_succ, true_and])
local macro_rules | `(tactic| iterate 7770 skip) => `(tactic| simp only [entC, List.zipWith, List.length_cons, List.length_nil, List.replicate, Nat.reduceSub, Nat.reduceAdd, List.cons_append, List.nil_append, List.append_nil, entR_int, entR_bl, entR_str, entR_non, entR_lst, entR_dK, entR_dT, entR_scr, entP_int, entP_lst, entR_pr, entR_net])
local macro_rules | `(tactic| iterate 7771 skip) => `(tactic| repeat' (first | with_reducible refine stp ?_ | ((with_reducible refine gv_pN ?_); refine v_pN ?_) | ((with_reducible refine gv_pN2 ?_); refine v_pN2 ?_) | iterate 7769 fail))
local macro_rules | `(tactic| iterate 7772 skip) => `(tactic| repeat' (first | with_reducible refine stp ?_ | ((with_reducible refine gv_pN ?_); refine v_pN ?_) | ((with_reducible refine gv_pN2 ?_); refine v_pN2 ?_) | iterate 7769 fail | with_reducible refine v_ite (fun _ => ?_) (fun _ => ?_)))
/-! ### turned -/
def turnN (N : Net) : Net := ⟨N.n, psort (N.lanes.map fun p => (p.2, p.1))⟩
def m_turned : DCX := fun ds R Ex => ∃ N, ds = [netD N] ∧ R (netD (turnN N)) true
/-! ### onward -/
def llD (L : List (List Int)) : D := .lst (L.map fun r => .lst (r.map .int))
def onw (n : Int) (l : List (Int × Int)) : List (List Int) := (List.range n.toNat).map fun i => (l.filter fun p => p.1 == ((i : Nat) : Int)).map (·.2)
def m_onward : DCX := fun ds R Ex => ∃ N, ds = [netD N] ∧ 0 ≤ N.n ∧ N.n ≤ 16777216 ∧ N.lanes.length < sizeLine ∧ (∀ p ∈ N.lanes, 0 ≤ p.1 ∧ p.1 < N.n) ∧ R (llD (onw N.n N.lanes)) true
open PySem PySem.Spec PyProof.Rows L2
set_option linter.all false
set_option Elab.async false
set_option maxRecDepth 100000
set_option maxHeartbeats 1000000
/-! ### walks -/
def RK (L : List (Int × Int)) (cs : List Int) (g : Int) : Nat → Int → Prop
  | 0, p => p = g ∧ g ∉ cs
  | k + 1, p => ∃ q, RK L cs g k q ∧ (q, p) ∈ L ∧ p ∉ cs
def Reach (L : List (Int × Int)) (cs : List Int) (g p : Int) : Prop := ∃ k, RK L cs g k p
def Dist (L : List (Int × Int)) (cs : List Int) (g p : Int) (k : Nat) : Prop := RK L cs g k p ∧ ∀ j, j < k → ¬ RK L cs g j p
structure FarOk (L : List (Int × Int)) (cs : List Int) (g : Int) (kvs : List (Int × Int)) : Prop where
  nd : (kvs.map (·.1)).Nodup
  dist : ∀ e ∈ kvs, ∃ d : Nat, e.2 = d ∧ Dist L cs g e.1 d
  all : ∀ p, Reach L cs g p → p ∈ kvs.map (·.1)
theorem FarOk.mem {L cs g kvs} (h : FarOk L cs g kvs) (p : Int) : p ∈ kvs.map (·.1) ↔ Reach L cs g p :=
  ⟨fun m => by obtain ⟨e, he, rfl⟩ := List.mem_map.mp m; obtain ⟨d, _, h2⟩ := h.dist e he; exact ⟨d, h2.1⟩, h.all p⟩
theorem Dist.uniq {L cs g p} {j k : Nat} (h1 : Dist L cs g p j) (h2 : Dist L cs g p k) : j = k := by
  rcases Nat.lt_trichotomy j k with h | h | h
  · exact absurd h1.1 (h2.2 j h)
  · exact h
  · exact absurd h2.1 (h1.2 k h)
theorem dist_of {L cs g p} {k : Nat} (h : RK L cs g k p) : ∃ j, j ≤ k ∧ Dist L cs g p j := by
  induction k using Nat.strongRecOn with
  | ind k ih =>
    by_cases hx : ∃ j, j < k ∧ RK L cs g j p
    · obtain ⟨j, hj, hr⟩ := hx
      obtain ⟨i, hi, hd⟩ := ih j hj hr
      exact ⟨i, by omega, hd⟩
    · exact ⟨k, Nat.le_refl _, h, fun j hj hr => hx ⟨j, hj, hr⟩⟩
def NetOk (n : Int) (L : List (Int × Int)) : Prop := ∀ p ∈ L, (0 ≤ p.1 ∧ p.1 < n) ∧ 0 ≤ p.2 ∧ p.2 < n
theorem RK.range {n : Int} {L cs g} (h : NetOk n L) (hg : 0 ≤ g ∧ g < n) : ∀ {k p}, RK L cs g k p → 0 ≤ p ∧ p < n
  | 0, p, hr => by rw [hr.1]; exact hg
  | k + 1, p, hr => by obtain ⟨q, _, hm, _⟩ := hr; exact (h _ hm).2
theorem RK.open {L cs g} : ∀ {k p}, RK L cs g k p → p ∉ cs
  | 0, p, hr => by rw [hr.1]; exact hr.2
  | k + 1, p, hr => by obtain ⟨q, _, _, h⟩ := hr; exact h
theorem nodup_sub_len {α : Type} [DecidableEq α] : ∀ {l m : List α}, l.Nodup → l ⊆ m → l.length ≤ m.length
  | [], _, _, _ => by simp
  | a :: l, m, nd, h => by
    have nd' := List.nodup_cons.mp nd
    have ha : a ∈ m := h List.mem_cons_self
    have := nodup_sub_len (l := l) (m := m.erase a) nd'.2 fun x hx => (List.mem_erase_of_ne (fun e : x = a => nd'.1 (by rw [← e]; exact hx))).mpr (h (List.mem_cons_of_mem _ hx))
    rw [List.length_erase_of_mem ha] at this
    have := List.length_pos_of_mem ha
    simp only [List.length_cons]; omega
theorem nodup_le {n : Int} {l : List Int} (nd : l.Nodup) (h : ∀ x ∈ l, 0 ≤ x ∧ x < n) : l.length ≤ n.toNat := by
  have h1 : (l.map Int.toNat).Nodup := by
    rw [List.nodup_iff_pairwise_ne] at *
    rw [List.pairwise_map]
    exact nd.imp_of_mem fun {a b} ha hb hne e => hne (by have := h a ha; have := h b hb; omega)
  have h2 : l.map Int.toNat ⊆ List.range n.toNat := fun x hx => by
    obtain ⟨y, hy, rfl⟩ := List.mem_map.mp hx
    have := h y hy
    exact List.mem_range.mpr (by omega)
  have := nodup_sub_len h1 h2
  simpa using this
/-- the state of a search in breadth, the layer k being the row -/
structure Bfs (L : List (Int × Int)) (cs : List Int) (g : Int) (k : Nat) (base : List (Int × Int)) (row : List Int) : Prop where
  nd : (base.map (·.1)).Nodup
  dist : ∀ e ∈ base, ∃ d : Nat, e.2 = d ∧ d ≤ k ∧ Dist L cs g e.1 d
  all : ∀ p d, d ≤ k → RK L cs g d p → p ∈ base.map (·.1)
  row : ∀ p, p ∈ row ↔ Dist L cs g p k
theorem Bfs.start {L cs g} (h : g ∉ cs) : Bfs L cs g 0 [(g, 0)] [g] where
  nd := by simp
  dist := fun e he => by simp at he; subst he; exact ⟨0, rfl, Nat.le_refl _, ⟨rfl, h⟩, fun j hj => by omega⟩
  all := fun p d hd hr => by
    have : d = 0 := by omega
    subst this; simp [hr.1]
  row := fun p => by
    constructor
    · intro hp; simp at hp; subst hp; exact ⟨⟨rfl, h⟩, fun j hj => by omega⟩
    · intro hp; simp [hp.1.1]
structure Lay (L : List (Int × Int)) (cs : List Int) (base : List (Int × Int)) (row done later : List Int) : Prop where
  nd : later.Nodup
  new : ∀ t ∈ later, t ∉ base.map (·.1) ∧ t ∉ cs ∧ ∃ q ∈ row, (q, t) ∈ L
  got : ∀ q ∈ done, ∀ t, (q, t) ∈ L → t ∈ base.map (·.1) ∨ t ∈ later ∨ t ∈ cs
def grow (base : List (Int × Int)) (k : Nat) (later : List Int) : List (Int × Int) := base ++ later.map fun t => (t, (k : Int) + 1)
theorem grow_keys (base : List (Int × Int)) (k : Nat) (later : List Int) : (grow base k later).map (·.1) = base.map (·.1) ++ later := by
  simp [grow, Function.comp_def]
theorem Bfs.done {L cs g k base} (b : Bfs L cs g k base []) : FarOk L cs g base where
  nd := b.nd
  dist := fun e he => by obtain ⟨d, h1, _, h3⟩ := b.dist e he; exact ⟨d, h1, h3⟩
  all := fun p ⟨d, hr⟩ => by
    -- nothing lies as far as k
    have none : ∀ m q, k ≤ m → ¬ Dist L cs g q m := by
      intro m
      induction m with
      | zero => intro q hk hd; have := (b.row q).mpr (by rwa [show k = 0 by omega]); cases this
      | succ m ih =>
        intro q hk hd
        by_cases e : k = m + 1
        · have := (b.row q).mpr (by rwa [e]); cases this
        · obtain ⟨q2, h1, h2, h3⟩ := hd.1
          obtain ⟨j, hj, hd2⟩ := dist_of h1
          by_cases hjm : j = m
          · subst hjm; exact ih q2 (by omega) hd2
          · exact hd.2 (j + 1) (by omega) ⟨q2, hd2.1, h2, h3⟩
    obtain ⟨j, hj, hd⟩ := dist_of hr
    by_cases h : k ≤ j
    · exact absurd hd (none j p h)
    · exact b.all p j (by omega) hd.1
theorem Bfs.len {n : Int} {L cs g k base row} (b : Bfs L cs g k base row) (h : NetOk n L) (hg : 0 ≤ g ∧ g < n) : base.length ≤ n.toNat := by
  have := nodup_le (n := n) b.nd fun x hx => by
    obtain ⟨e, he, rfl⟩ := List.mem_map.mp hx
    obtain ⟨d, _, _, h3⟩ := b.dist e he
    exact h3.1.range h hg
  simpa using this
/-! ### dicts of places -/
def encII (kvs : List (Int × Int)) : List (Key × D) := kvs.map fun e => (.inl e.1, .int e.2)
def dII (kvs : List (Int × Int)) : D := .dK (encII kvs)
theorem alook_isSome {kvs : List (Int × Int)} {p : Int} : (alook (encII kvs) (.inl p)).isSome = decide (p ∈ kvs.map (·.1)) := by
  induction kvs with
  | nil => rfl
  | cons e kvs ih =>
    show (alook ((Sum.inl e.1, D.int e.2) :: encII kvs) _).isSome = _
    rw [alook_cons]
    by_cases h : e.1 = p
    · rw [if_pos (by rw [h])]; simp [h]
    · rw [if_neg (fun z => h (by cases z; rfl)), ih]
      simp [Ne.symm h]
theorem v_inII {neg : Bool} {t : Int} {kvs : List (Int × Int)} {R : DR} (q : R (.bl (xor neg (decide (t ∈ kvs.map (·.1))))) true) : inM neg (.int t) (dII kvs) R := by
  refine ⟨.inl t, rfl, ?_⟩
  show R (.bl (neg ^^ (alook (encII kvs) (Sum.inl t)).isSome)) true
  rw [alook_isSome]; exact q
instance iv_inII {neg : Bool} {t : Int} {kvs : List (Int × Int)} {R : DR} : Step (inM neg (.int t) (dII kvs) R) (R (.bl (xor neg (decide (t ∈ kvs.map (·.1))))) true) := ⟨fun q => v_inII q⟩
/-- ints asked for -/
def InOk (cl : D) (cs : List Int) : Prop := ∀ neg a R, R (.bl (xor neg (decide (a ∈ cs)))) true → inM neg (.int a) cl R
theorem any_int {a : Int} : ∀ cs : List Int, ((cs.map D.int).any fun z => z.eqv (.int a)) = decide (a ∈ cs)
  | [] => rfl
  | c :: cs => by
    rw [List.map_cons, List.any_cons, any_int cs]
    by_cases h : a = c
    · subst h; simp [D.eqv]
    · have : (c == a) = false := by simp; exact fun z => h z.symm
      simp [D.eqv, this, h]
theorem shp_ints (n : Nat) (cs : List Int) : (cs.map D.int).all (D.shp n) = true := by
  rw [List.all_eq_true]; intro x hx; obtain ⟨i, _, rfl⟩ := List.mem_map.mp hx
  cases n <;> rfl
theorem InOk.lst (cs : List Int) : InOk (.lst (cs.map .int)) cs := fun neg a R q => ⟨rfl, shp_ints 8 cs, by rw [any_int]; exact q⟩
theorem InOk.tup (cs : List Int) : InOk (.tup (cs.map .int)) cs := fun neg a R q => ⟨rfl, shp_ints 8 cs, by rw [any_int]; exact q⟩
theorem InOk.dic (kvs : List (Int × Int)) : InOk (dII kvs) (kvs.map (·.1)) := fun neg a R q => v_inII q

open PySem PySem.Spec PyProof.Rows L2
set_option linter.all false
set_option Elab.async false
set_option maxRecDepth 100000
set_option maxHeartbeats 2000000
def m_far_from : DCX := fun ds R Ex => ∃ N g cl cs, ds = [netD N, .int g, cl] ∧ InOk cl cs ∧ NetOk N.n N.lanes ∧ 0 ≤ N.n ∧ N.n ≤ 16777215 ∧ N.lanes.length < sizeLine ∧ (0 ≤ g ∧ g < N.n) ∧ ∀ kvs, FarOk N.lanes cs g kvs → R (dII kvs) true
theorem Bfs.val {L cs g k base row} (b : Bfs L cs g k base row) {q : Int} (h : q ∈ row) : (q, (k : Int)) ∈ base := by
  have hd := (b.row q).mp h
  obtain ⟨e, he, rfl⟩ := List.mem_map.mp (b.all q k (Nat.le_refl _) hd.1)
  obtain ⟨d, h1, _, h3⟩ := b.dist e he
  have := h3.uniq hd
  subst this
  rw [← h1]; exact he
theorem Lay.keys {L cs g k base row done later} (b : Bfs L cs g k base row) (l : Lay L cs base row done later) : ((grow base k later).map (·.1)).Nodup := by
  rw [grow_keys]
  exact List.nodup_append.mpr ⟨b.nd, l.nd, fun x hx y hy e => (l.new y hy).1 (e ▸ hx)⟩
theorem Lay.len {n : Int} {L cs g k base row done later} (b : Bfs L cs g k base row) (l : Lay L cs base row done later) (h : NetOk n L) (hg : 0 ≤ g ∧ g < n) : base.length + later.length ≤ n.toNat := by
  have := nodup_le (n := n) (l.keys b) fun x hx => by
    rw [grow_keys, List.mem_append] at hx
    rcases hx with hx | hx
    · obtain ⟨e, he, rfl⟩ := List.mem_map.mp hx
      obtain ⟨d, _, _, h3⟩ := b.dist e he
      exact h3.1.range h hg
    · obtain ⟨_, _, q, _, hm⟩ := l.new x hx
      exact (h _ hm).2
  simpa [grow] using this
theorem Lay.zero {L cs base row} : Lay L cs base row [] [] := ⟨List.nodup_nil, fun t h => (nomatch h), fun q h => (nomatch h)⟩
theorem Lay.more {L cs base row done later} (l : Lay L cs base row done later) {q t : Int} (hq : q ∈ row) (hm : (q, t) ∈ L) (h1 : t ∉ base.map (·.1)) (h2 : t ∉ later) (h3 : t ∉ cs) : Lay L cs base row done (later ++ [t]) where
  nd := List.nodup_append.mpr ⟨l.nd, by simp, fun x hx y hy e => by simp at hy; subst hy; subst e; exact h2 hx⟩
  new := fun u hu => by
    rcases List.mem_append.mp hu with hu | hu
    · exact l.new u hu
    · simp at hu; subst hu; exact ⟨h1, h3, q, hq, hm⟩
  got := fun q' hq' u hu => by
    rcases l.got q' hq' u hu with h | h | h
    · exact .inl h
    · exact .inr (.inl (List.mem_append_left _ h))
    · exact .inr (.inr h)
theorem v_neI {xs ys : List Int} {R : DR} (q : R (.bl (decide (xs ≠ ys))) true) : neM (.lst (xs.map .int)) (.lst (ys.map .int)) R := by
  refine ⟨?_, ?_, ?_⟩
  · simpa [D.shp] using shp_ints 8 xs
  · simpa [D.shp] using shp_ints 8 ys
  have e : ∀ xs ys : List Int, eqvL (xs.map .int) (ys.map .int) = decide (xs = ys) := by
    intro xs
    induction xs with
    | nil => intro ys; cases ys <;> simp [eqvL]
    | cons x xs ih => intro ys; cases ys with
      | nil => simp [eqvL]
      | cons y ys => simp only [List.map_cons, eqvL, D.eqv, ih]; simp [Bool.decide_and]; rfl
  have : (D.lst (xs.map .int)).eqv (.lst (ys.map .int)) = decide (xs = ys) := by simp only [D.eqv, e]
  rw [this]
  simpa using q
instance iv_neI {xs ys : List Int} {R : DR} : Step (neM (.lst (xs.map .int)) (.lst (ys.map .int)) R) (R (.bl (decide (xs ≠ ys))) true) := ⟨fun q => v_neI q⟩
local macro_rules | `(tactic| iterate 7773 skip) => `(tactic| try simp only [putF, newC, List.set_cons_succ, List.set_cons_zero, List.getElem?_cons_zero, List.getElem?_cons_succ, true_and])
local macro_rules | `(tactic| iterate 7770 skip) => `(tactic| simp only [entC, List.zipWith, List.length_cons, List.length_nil, List.replicate, Nat.reduceSub, Nat.reduceAdd, List.cons_append, List.nil_append, List.append_nil, entR_int, entR_bl, entR_str, entR_non, entR_lst, entR_dK, entR_dT, entR_scr, entP_int, entP_lst, entR_pr, entR_net])
local macro_rules | `(tactic| iterate 7771 skip) => `(tactic| repeat' (first | with_reducible refine stp ?_ | ((with_reducible refine gv_pN ?_); refine v_pN ?_) | ((with_reducible refine gv_pN2 ?_); refine v_pN2 ?_) | iterate 7769 fail))
local macro_rules | `(tactic| iterate 7772 skip) => `(tactic| repeat' (first | with_reducible refine stp ?_ | ((with_reducible refine gv_pN ?_); refine v_pN ?_) | ((with_reducible refine gv_pN2 ?_); refine v_pN2 ?_) | iterate 7769 fail | with_reducible refine v_ite (fun _ => ?_) (fun _ => ?_)))
/-! ### reached -/
/-- the places from 0 to n of a kind, rising -/
def upto (n : Int) (p : Int → Prop) [DecidablePred p] : List Int := ((List.range n.toNat).map fun i => ((i : Nat) : Int)).filter fun i => decide (p i)
theorem upto_mem {n : Int} {p : Int → Prop} [DecidablePred p] {i : Int} : i ∈ upto n p ↔ (0 ≤ i ∧ i < n) ∧ p i := by
  unfold upto
  rw [List.mem_filter, List.mem_map]
  simp only [List.mem_range, decide_eq_true_eq]
  constructor
  · rintro ⟨⟨k, hk, rfl⟩, h⟩; exact ⟨by omega, h⟩
  · rintro ⟨⟨h0, h1⟩, h⟩; exact ⟨⟨i.toNat, by omega, by omega⟩, h⟩
theorem upto_sorted (n : Int) (p : Int → Prop) [DecidablePred p] : (upto n p).Pairwise (· < ·) := by
  unfold upto
  refine List.Pairwise.filter _ ?_
  rw [List.pairwise_map]
  exact List.pairwise_lt_range.imp fun h => by omega
theorem sorted_ext : ∀ {l m : List Int}, l.Pairwise (· < ·) → m.Pairwise (· < ·) → (∀ x, x ∈ l ↔ x ∈ m) → l = m
  | [], [], _, _, _ => rfl
  | [], b :: m, _, _, h => absurd ((h b).mpr List.mem_cons_self) List.not_mem_nil
  | a :: l, [], _, _, h => absurd ((h a).mp List.mem_cons_self) List.not_mem_nil
  | a :: l, b :: m, hl, hm, h => by
    have hl' := List.pairwise_cons.mp hl
    have hm' := List.pairwise_cons.mp hm
    have e : a = b := by
      rcases List.mem_cons.mp ((h a).mp List.mem_cons_self) with e | e
      · exact e
      · rcases List.mem_cons.mp ((h b).mpr List.mem_cons_self) with e2 | e2
        · exact e2.symm
        · have := hm'.1 a e; have := hl'.1 b e2; omega
    subst e
    rw [sorted_ext hl'.2 hm'.2 fun x => ?_]
    constructor
    · intro hx
      rcases List.mem_cons.mp ((h x).mp (List.mem_cons_of_mem _ hx)) with e | e
      · subst e; have := hl'.1 x hx; omega
      · exact e
    · intro hx
      rcases List.mem_cons.mp ((h x).mpr (List.mem_cons_of_mem _ hx)) with e | e
      · subst e; have := hm'.1 x hx; omega
      · exact e
theorem isort_strict {l : List Int} (nd : l.Nodup) : (isort l).Pairwise (· < ·) := by
  have h1 := isort_sorted l
  have h2 : (isort l).Nodup := (isort_perm l).nodup_iff.mpr nd
  exact (h1.and h2).imp fun h => by have := h.1; have := h.2; omega
noncomputable instance (p : Int → Prop) : DecidablePred p := fun _ => Classical.propDecidable _
/-- what is reached, rising -/
noncomputable def reachL (n : Int) (L : List (Int × Int)) (cs : List Int) (g : Int) : List Int := upto n (Reach L cs g)
theorem reachL_mem {n : Int} {L cs g} (h : NetOk n L) (hg : 0 ≤ g ∧ g < n) {p : Int} : p ∈ reachL n L cs g ↔ Reach L cs g p := by
  unfold reachL
  rw [upto_mem]
  exact ⟨fun h => h.2, fun ⟨k, hk⟩ => ⟨hk.range h hg, k, hk⟩⟩
theorem FarOk.sorted {n : Int} {L cs g kvs} (f : FarOk L cs g kvs) (h : NetOk n L) (hg : 0 ≤ g ∧ g < n) : isort (kvs.map (·.1)) = reachL n L cs g :=
  sorted_ext (isort_strict f.nd) (upto_sorted _ _) fun x => by
    rw [(isort_perm _).mem_iff, f.mem, reachL_mem h hg]
theorem FarOk.le {n : Int} {L cs g kvs} (f : FarOk L cs g kvs) (h : NetOk n L) (hg : 0 ≤ g ∧ g < n) : kvs.length ≤ n.toNat := by
  have := nodup_le (n := n) f.nd fun x hx => by obtain ⟨k, hk⟩ := (f.mem x).mp hx; exact hk.range h hg
  simpa using this
def m_reached : DCX := fun ds R Ex => ∃ N g, ds = [netD N, .int g] ∧ NetOk N.n N.lanes ∧ 0 ≤ N.n ∧ N.n < 64 ∧ N.lanes.length < sizeLine ∧ (0 ≤ g ∧ g < N.n) ∧ R (.tup ((reachL N.n N.lanes [] g).map .int)) true
local macro_rules | `(tactic| iterate 7773 skip) => `(tactic| try simp only [putF, newC, List.set_cons_succ, List.set_cons_zero, List.getElem?_cons_zero, List.getElem?_cons_succ, true_and])
local macro_rules | `(tactic| iterate 7770 skip) => `(tactic| simp only [entC, List.zipWith, List.length_cons, List.length_nil, List.replicate, Nat.reduceSub, Nat.reduceAdd, List.cons_append, List.nil_append, List.append_nil, entR_int, entR_bl, entR_str, entR_non, entR_lst, entR_dK, entR_dT, entR_scr, entP_int, entP_lst, entR_pr, entR_net])
local macro_rules | `(tactic| iterate 7771 skip) => `(tactic| repeat' (first | with_reducible refine stp ?_ | ((with_reducible refine gv_pN ?_); refine v_pN ?_) | ((with_reducible refine gv_pN2 ?_); refine v_pN2 ?_) | iterate 7769 fail))
local macro_rules | `(tactic| iterate 7772 skip) => `(tactic| repeat' (first | with_reducible refine stp ?_ | ((with_reducible refine gv_pN ?_); refine v_pN ?_) | ((with_reducible refine gv_pN2 ?_); refine v_pN2 ?_) | iterate 7769 fail | with_reducible refine v_ite (fun _ => ?_) (fun _ => ?_)))

open PySem PySem.Spec PyProof.Rows L2
set_option linter.all false
set_option Elab.async false
set_option maxRecDepth 100000
set_option maxHeartbeats 2000000
local macro_rules | `(tactic| iterate 7773 skip) => `(tactic| try simp only [putF, newC, List.set_cons_succ, List.set_cons_zero, List.getElem?_cons_zero, List.getElem?_cons_succ, true_and])
local macro_rules | `(tactic| iterate 7770 skip) => `(tactic| simp only [entC, List.zipWith, List.length_cons, List.length_nil, List.replicate, Nat.reduceSub, Nat.reduceAdd, List.cons_append, List.nil_append, List.append_nil, entR_int, entR_bl, entR_str, entR_non, entR_lst, entR_dK, entR_dT, entR_scr, entP_int, entP_lst, entR_pr, entR_net])
local macro_rules | `(tactic| iterate 7771 skip) => `(tactic| repeat' (first | with_reducible refine stp ?_ | ((with_reducible refine gv_pN ?_); refine v_pN ?_) | ((with_reducible refine gv_pN2 ?_); refine v_pN2 ?_) | iterate 7769 fail))
local macro_rules | `(tactic| iterate 7772 skip) => `(tactic| repeat' (first | with_reducible refine stp ?_ | ((with_reducible refine gv_pN ?_); refine v_pN ?_) | ((with_reducible refine gv_pN2 ?_); refine v_pN2 ?_) | iterate 7769 fail | with_reducible refine v_ite (fun _ => ?_) (fun _ => ?_)))
/-! ### the law's bag -/
def m__law_cell : DCX := fun ds R Ex => ∃ ns k, ds = [.scr ns, .int k] ∧ 0 ≤ k ∧ ∀ i, R (.int i) true
theorem len__law_cell {ds R Ex} (h : m__law_cell ds R Ex) : ds.length = 2 := by obtain ⟨ns, k, rfl, _⟩ := h; rfl
/- slots: 0 script 1 k -/
def t__law_cell : ESt := (sSeq (sIf (etPure (tVal (pBin ltM (pName 1) (pCall lenM (aCons (pName 0) aNil))))) (sRet (ePure (pBin ixM (pName 0) (pName 1)))) sNext)
  (sRet (ePure (pC (.int 0)))))

theorem w__law_cell {ds : List D} {R : DR} {Ex : Value → Prop} {vs : List V} (hm : m__law_cell ds R Ex) (hl : vs.length = ds.length) : t__law_cell (fun cls _ => Ex cls) { nx := fun _ => R .non true, rt := fun d o _ => R d o } (entC 2 entR ds vs) := by
  obtain ⟨ns, k, rfl, hk, hr⟩ := hm
  obtain ⟨v1, v2, rfl⟩ := vs2 hl
  iterate 7770 skip
  unfold t__law_cell
  iterate 7772 skip
  · rename_i h
    have : k.toNat < ns.length := by simp at h; omega
    refine ⟨_, atI_int hk (List.getElem?_eq_getElem this), ?_⟩
    iterate 7772 skip
    exact hr _
  · exact hr _
def bagD (a b c : Int) : D := .lst [.int a, .int b, .int c]
def BagS (C : Int) (d : D) : Prop := ∃ a b c, d = bagD a b c ∧ (0 ≤ b ∧ b < 2305843009213693951) ∧ 0 ≤ c ∧ c ≤ C
theorem BagS.mono {C C' : Int} {d : D} (h : BagS C d) (hc : C ≤ C') : BagS C' d := by
  obtain ⟨a, b, c, e, h1, h2, h3⟩ := h; exact ⟨a, b, c, e, h1, h2, by omega⟩
def m__law_well : DCX := fun ds R Ex => ∃ a t, ds = [.int a, .int t] ∧ 0 ≤ t ∧ ∀ d, BagS t d → R d true
theorem len__law_well {ds R Ex} (h : m__law_well ds R Ex) : ds.length = 2 := by obtain ⟨ns, k, rfl, _⟩ := h; rfl
theorem v_immL3 {C : Prop} (q : C) : (true && (true && (true && true))) = true ∧ C := ⟨rfl, q⟩
instance iv_immL3 {C : Prop} : Step ((true && (true && (true && true))) = true ∧ C) (C) := ⟨fun q => v_immL3 q⟩
/- slots: 0 cell 1 turn -/
def t__law_well : ESt := (sSeq (sIf (etPure (tVal (pBin geM (pName 0) (pBin powM (pC (.int 10)) (pC (.int 18)))))) (sRet (ePure (pLst (aCons (pBin subM (pName 0) (pBin powM (pC (.int 10)) (pC (.int 18)))) (aCons (pBin modM (pName 0) (pC (.int 2305843009213693951))) (aCons (pName 1) aNil)))))) sNext)
  (sRet (ePure (pLst (aCons (pC (.int 0)) (aCons (pBin modM (pName 0) (pC (.int 2305843009213693951))) (aCons (pName 1) aNil)))))))

theorem w__law_well {ds : List D} {R : DR} {Ex : Value → Prop} {vs : List V} (hm : m__law_well ds R Ex) (hl : vs.length = ds.length) : t__law_well (fun cls _ => Ex cls) { nx := fun _ => R .non true, rt := fun d o _ => R d o } (entC 2 entR ds vs) := by
  obtain ⟨a, t, rfl, ht, hr⟩ := hm
  obtain ⟨v1, v2, rfl⟩ := vs2 hl
  iterate 7770 skip
  unfold t__law_well
  iterate 7772 skip
  · exact hr _ ⟨_, _, _, rfl, ⟨Int.emod_nonneg _ (by decide), Int.emod_lt_of_pos _ (by decide)⟩, ht, Int.le_refl _⟩
  · exact hr _ ⟨_, _, _, rfl, ⟨Int.emod_nonneg _ (by decide), Int.emod_lt_of_pos _ (by decide)⟩, ht, Int.le_refl _⟩
def m__law_take : DCE := fun ds R Ex => ∃ d C m, ds = [d, .int m] ∧ BagS C d ∧ C < 4611686018427387904 ∧ 0 < m ∧ m < 1766847064778384329583297500742918515827483896875618958121606201292619776 ∧ ∀ d' r, BagS (C + 1) d' → 0 ≤ r → r < m → R (.int r) [some d', none]
theorem entP_bag (a b c : Int) (v : V) : entP (bagD a b c) v = .pin (.lst [.int a, .int b, .int c]) v := rfl
local macro_rules | `(tactic| iterate 7773 skip) => `(tactic| try simp only [putF, newC, List.set_cons_succ, List.set_cons_zero, List.getElem?_cons_zero, List.getElem?_cons_succ, true_and])
local macro_rules | `(tactic| iterate 7770 skip) => `(tactic| simp only [entC, List.zipWith, List.length_cons, List.length_nil, List.replicate, Nat.reduceSub, Nat.reduceAdd, List.cons_append, List.nil_append, List.append_nil, entR_int, entR_bl, entR_str, entR_non, entR_lst, entR_dK, entR_dT, entR_scr, entP_int, entP_lst, entR_pr, entR_net, entP_bag])
local macro_rules | `(tactic| iterate 7771 skip) => `(tactic| repeat' (first | with_reducible refine stp ?_ | ((with_reducible refine gv_pN ?_); refine v_pN ?_) | ((with_reducible refine gv_pN2 ?_); refine v_pN2 ?_) | iterate 7769 fail))
local macro_rules | `(tactic| iterate 7772 skip) => `(tactic| repeat' (first | with_reducible refine stp ?_ | ((with_reducible refine gv_pN ?_); refine v_pN ?_) | ((with_reducible refine gv_pN2 ?_); refine v_pN2 ?_) | iterate 7769 fail | with_reducible refine v_ite (fun _ => ?_) (fun _ => ?_)))
/- slots: 0 bag 1 many 2 found 3 p 4 n -/
def t__law_take : ESt := (sSeq (sIf (etPure (tVal (pBin gtM (pBin ixM (pName 0) (pC (.int 0))) (pC (.int 0))))) (sSeq (sSet 2 (ePure (pBin modM (pBin ixM (pName 0) (pC (.int 0))) (pName 1))))
  (sSeq (sSetL 0 (ePure (pC (.int 0))) (ePure (pBin fdivM (pBin ixM (pName 0) (pC (.int 0))) (pName 1))))
  (sRet (eTake 2)))) sNext)
  (sSeq (sSetL 0 (ePure (pC (.int 2))) (ePure (pBin addM (pBin ixM (pName 0) (pC (.int 2))) (pC (.int 1)))))
  (sSeq (sSet 3 (ePure (pC (.int 2305843009213693951))))
  (sSeq (sSet 4 (ePure (pBin modM (pBin addM (pBin ixM (pName 0) (pC (.int 1))) (pBin mulM' (pC (.int 1000003)) (pBin ixM (pName 0) (pC (.int 2))))) (pName 3))))
  (sSeq (sSet 4 (ePure (pBin modM (pBin addM (pBin addM (pBin mulM' (pName 4) (pName 4)) (pBin mulM' (pC (.int 7919)) (pBin powM (pBin ixM (pName 0) (pC (.int 2))) (pC (.int 2))))) (pC (.int 5))) (pName 3))))
  (sRet (ePure (pBin modM (pBin fdivM (pBin modM (pBin powM (pName 4) (pC (.int 3))) (pName 3)) (pC (.int 13))) (pName 1)))))))))

theorem w__law_take {ds : List D} {R : D → List (Option D) → Prop} {Ex : Value → List (Option D) → Prop} {vs : List V} (hm : m__law_take ds R Ex) (hl : vs.length = 2) (hd : ds.length = 2) : t__law_take (fun cls ρ' => ∃ fs, Ex cls fs ∧ fs.length = 2 ∧ finOk fs vs ρ')
      { nx := fun ρ' => ∃ fs, R .non fs ∧ fs.length = 2 ∧ finOk fs vs ρ', rt := fun d o ρ' => o = true ∧ ∃ fs, R d fs ∧ fs.length = 2 ∧ finOk fs vs ρ' } (entC 5 entP ds vs) := by
  obtain ⟨d, C, m, rfl, ⟨a, b, c, rfl, hb, hc0, hc⟩, hC, hm0, hm1, hr⟩ := hm
  obtain ⟨v1, v2, rfl⟩ := vs2 hl
  iterate 7770 skip
  unfold t__law_take
  iterate 7772 skip
  · refine ⟨[some (bagD (a / m) b c), none], hr _ _ ⟨_, _, _, rfl, hb, hc0, by omega⟩ (Int.emod_nonneg _ (by omega)) (Int.emod_lt_of_pos _ hm0), rfl, rfl, trivial⟩
  · refine ⟨[some (bagD a b (c + 1)), none], hr _ _ ⟨_, _, _, rfl, hb, by omega, by omega⟩ (Int.emod_nonneg _ (by omega)) (Int.emod_lt_of_pos _ hm0), rfl, rfl, trivial⟩
theorem v_take {i : Nat} {ρ : Cells} {d : D} {C m : Int} {G : D → List (Option D) → Prop} {Ex : Value → List (Option D) → Prop} (q : ∀ d' r, BagS (C + 1) d' → 0 ≤ r → r < m → G (.int r) [some d', none]) (hb : BagS C d) (h0 : 0 < m) (h1 : m < 1766847064778384329583297500742918515827483896875618958121606201292619776) (hC : C < 4611686018427387904)
    (h : argD [.inr i, .inl (.int m)] ρ = some [d, .int m] := by rfl) : ∃ ds, argD [.inr i, .inl (.int m)] ρ = some ds ∧ ds.length = 2 ∧ (argN [(.inr i : Arg), .inl (.int m)]).Nodup ∧ m__law_take ds G Ex :=
  ⟨_, h, rfl, by simp [argN], d, C, m, rfl, hb, hC, h0, h1, q⟩
/-- items that may be asked for and moved about -/
def PlainL (xs : List D) : Prop := immL xs = true ∧ xs.all (D.shp 8) = true
theorem PlainL.ints (l : List Int) : PlainL (l.map .int) := ⟨immL_ints l, shp_ints 8 l⟩
theorem PlainL.perm {xs ys : List D} (h : PlainL xs) (p : ys.Perm xs) : PlainL ys := by
  refine ⟨immL_iff.mpr fun d hd => immL_iff.mp h.1 d (p.mem_iff.mp hd), List.all_eq_true.mpr fun d hd => List.all_eq_true.mp h.2 d (p.mem_iff.mp hd)⟩
theorem PlainL.sub {xs ys : List D} (h : PlainL xs) (p : ∀ y ∈ ys, y ∈ xs) : PlainL ys := by
  refine ⟨immL_iff.mpr fun d hd => immL_iff.mp h.1 d (p d hd), List.all_eq_true.mpr fun d hd => List.all_eq_true.mp h.2 d (p d hd)⟩
theorem v_neNil {xs : List D} {R : DR} (q : R (.bl (decide (xs ≠ []))) true) (h : xs.all (D.shp 8) = true) : neM (.lst xs) (.lst []) R := by
  refine ⟨by simpa [D.shp] using h, rfl, ?_⟩
  have : (D.lst xs).eqv (.lst []) = decide (xs = []) := by simp only [D.eqv]; cases xs <;> simp [eqvL]
  rw [this]; simpa using q
theorem eraseIdx_perm {α : Type} : ∀ {l : List α} {k : Nat} (h : k < l.length), (l[k] :: l.eraseIdx k).Perm l
  | [], k, h => by simp at h
  | a :: l, 0, h => by simp
  | a :: l, k + 1, h => by
    have ih := eraseIdx_perm (l := l) (k := k) (by simpa using h)
    simp only [List.getElem_cons_succ, List.eraseIdx_cons_succ]
    exact (List.Perm.swap _ _ _).trans (ih.cons a)
def m__law_shuffled : DCE := fun ds R Ex => ∃ d C xs sm, ∃ f2 : Option D, ds = [d, sm] ∧ (f2 = none ∨ sm = .lst xs ∧ f2 = some (.lst xs)) ∧ (sm = .lst xs ∨ sm = .tup xs ∨ ∃ ms : List Int, sm = .ord ms ∧ xs = ms.map .int) ∧ PlainL xs ∧ xs.length ≤ 100000 ∧ BagS C d ∧ C + xs.length < 4611686018427387904 ∧ ∀ d' ys, BagS (C + xs.length) d' → ys.Perm xs → R (.lst ys) [some d', f2]
/- slots: 0 bag 1 some 2 left 3 found -/
def t__law_shuffled : ESt := (sSeq (sSet 2 (ePure (pCall listM (aCons (pName 1) aNil))))
  (sSeq (sSet 3 (ePure (pLst aNil)))
  (sSeq (sWhile (etPure (tVal (pBin neM (pName 2) (pLst aNil)))) (sDrop (eAppend 3 (ePopAt 2 (eCall m__law_take 2 (enName 0 (enVal (ePure (pCall lenM (aCons (pName 2) aNil))) enNil)))))))
  (sRet (eTake 3)))))

theorem w__law_shuffled {ds : List D} {R : D → List (Option D) → Prop} {Ex : Value → List (Option D) → Prop} {vs : List V} (hm : m__law_shuffled ds R Ex) (hl : vs.length = 2) (hd : ds.length = 2) : t__law_shuffled (fun cls ρ' => ∃ fs, Ex cls fs ∧ fs.length = 2 ∧ finOk fs vs ρ')
      { nx := fun ρ' => ∃ fs, R .non fs ∧ fs.length = 2 ∧ finOk fs vs ρ', rt := fun d o ρ' => o = true ∧ ∃ fs, R d fs ∧ fs.length = 2 ∧ finOk fs vs ρ' } (entC 4 entP ds vs) := by
  obtain ⟨d, C, xs, sm, f2, rfl, hf2, hsm, hp, hz, ⟨a, b, c, rfl, hb1, hb2⟩, hC, hr⟩ := hm
  obtain ⟨v1, v2, rfl⟩ := vs2 hl
  iterate 7770 skip
  unfold t__law_shuffled
  iterate 7772 skip
  have hl2 : ∀ R : DR, R (.lst xs) (immL xs) → listM [sm] R := fun R q => by
    rcases hsm with rfl | rfl | ⟨ms, rfl, rfl⟩
    · exact q
    · exact q
    · rw [immL_ints] at q; exact q
  refine hl2 _ ?_
  iterate 7772 skip
  refine ⟨hp.1, ?_⟩
  iterate 7772 skip
  refine while_I (fun m ρ => ∃ d left found, m = left.length ∧ (left ++ found).Perm xs ∧ BagS (C + found.length) d ∧ ρ = [Cell.pin d v1, entP sm v2, Cell.own (.lst left), Cell.own (.lst found)]) _
    ⟨_, xs, [], rfl, by simp, ⟨a, b, c, rfl, hb1, by simpa using hb2⟩, rfl⟩ ?_
  rintro m ρ ⟨d, left, found, rfl, hpm, hbag, rfl⟩
  have hlen : left.length + found.length = xs.length := by have := hpm.length_eq; simpa using this
  have hpl : PlainL left := hp.sub fun y hy => hpm.mem_iff.mp (List.mem_append_left _ hy)
  have hpf : PlainL found := hp.sub fun y hy => hpm.mem_iff.mp (List.mem_append_right _ hy)
  iterate 7772 skip
  refine v_neNil ?_ hpl.2
  iterate 7772 skip
  · rename_i h
    have hne : left ≠ [] := by simpa using h
    have hpos := List.length_pos_iff.mpr hne
    refine ⟨⟨_, _, rfl, rfl⟩, ?_⟩
    iterate 7772 skip
    refine ⟨⟨_, _, rfl, rfl⟩, ?_⟩
    iterate 7772 skip
    refine v_take (fun d' r hb' hr0 hr1 => ?_) hbag (by omega) (by omega) (by omega)
    iterate 7772 skip
    have hrl : r.toNat < left.length := by omega
    refine ⟨_, left, r.toNat, left[r.toNat], by rw [Int.toNat_of_nonneg hr0], rfl, rfl, hpl.1, List.getElem?_eq_getElem hrl, by omega, ?_⟩
    iterate 7772 skip
    refine ⟨_, found, rfl, rfl, by rw [sizeLine_eq]; omega, ?_⟩
    iterate 7772 skip
    refine ⟨_, ?_, d', left.eraseIdx r.toNat, found ++ [left[r.toNat]], rfl, ?_, ?_, rfl⟩
    · rw [List.length_eraseIdx, if_pos hrl]; omega
    · refine List.Perm.trans ?_ hpm
      have h1 : (left[r.toNat] :: left.eraseIdx r.toNat).Perm left := eraseIdx_perm hrl
      have h2 : (left.eraseIdx r.toNat ++ (found ++ [left[r.toNat]])).Perm (left[r.toNat] :: left.eraseIdx r.toNat ++ found) := by
        rw [← List.append_assoc]
        exact List.perm_append_singleton _ _
      exact h2.trans (h1.append_right found)
    · simp only [List.length_append, List.length_cons, List.length_nil]
      have e : C + ((found.length + (0 + 1) : Nat) : Int) = C + found.length + 1 := by omega
      rw [e]; exact hb'
  · rename_i h
    have : left = [] := by simpa using h
    subst this
    iterate 7772 skip
    have hl0 : found.length = xs.length := by simpa using hlen
    refine ⟨[some d, f2], hr d found (by rw [← hl0]; exact hbag) (by simpa using hpm), rfl, rfl, ?_⟩
    rcases hf2 with rfl | ⟨rfl, rfl⟩
    · trivial
    · exact ⟨rfl, trivial⟩

open PySem PySem.Spec PyProof.Rows L2
set_option linter.all false
set_option Elab.async false
set_option maxRecDepth 100000
set_option maxHeartbeats 4000000
/-! ### dicts, typed -/
section
variable {κ α : Type} [DecidableEq κ]
theorem alook_some_iff {kvs : List (κ × α)} {k : κ} : (alook kvs k).isSome = true ↔ k ∈ kvs.map (·.1) := by
  induction kvs with
  | nil => simp [alook]
  | cons p kvs ih =>
    rw [alook_cons]
    by_cases e : p.1 = k
    · rw [if_pos e]; simp [e]
    · rw [if_neg e, ih]; simp [Ne.symm e]
theorem alook_aput {kvs : List (κ × α)} {k k' : κ} {x : α} : alook (aput kvs k x) k' = if k = k' then some x else alook kvs k' := by
  unfold aput
  split
  · rename_i h
    induction kvs with
    | nil => simp at h
    | cons p kvs ih =>
      simp only [List.map_cons]
      by_cases e : p.1 = k
      · rw [if_pos e, alook_cons]
        by_cases e2 : k = k'
        · rw [if_pos e2, if_pos (show (p.1, x).1 = k' by rw [← e2]; exact e)]
        · rw [if_neg e2, if_neg (show ¬ (p.1, x).1 = k' by show ¬ p.1 = k'; rw [e]; exact e2), alook_cons, if_neg (by rw [e]; exact e2)]
          have : ∀ l : List (κ × α), alook (l.map fun kv => if kv.1 = k then (kv.1, x) else kv) k' = alook l k' := by
            intro l
            induction l with
            | nil => rfl
            | cons q l ih2 =>
              simp only [List.map_cons]
              by_cases e3 : q.1 = k
              · rw [if_pos e3, alook_cons, alook_cons, if_neg (show ¬ (q.1, x).1 = k' by show ¬ q.1 = k'; rw [e3]; exact e2), if_neg (by rw [e3]; exact e2), ih2]
              · rw [if_neg e3, alook_cons, alook_cons, ih2]
          exact this kvs
      · rw [if_neg e, alook_cons, alook_cons]
        have h' : (kvs.any fun kv => decide (kv.1 = k)) = true := by simpa [e] using h
        rw [ih h']
        by_cases e2 : k = k'
        · subst e2; simp [e]
        · simp [e2]
  · rename_i h
    have hn : alook kvs k = none := by
      unfold alook
      simp only [Option.map_eq_none_iff, List.find?_eq_none]
      intro y hy z
      exact h (List.any_eq_true.mpr ⟨y, hy, z⟩)
    induction kvs with
    | nil =>
      rw [List.nil_append, alook_cons]
    | cons p kvs ih =>
      rw [List.cons_append, alook_cons, alook_cons]
      rw [alook_cons] at hn
      split at hn
      · cases hn
      · rename_i e
        rw [ih (by simpa [e] using h) hn]
        by_cases e2 : k = k'
        · subst e2; simp [e]
        · simp [e2]
theorem aput_keys {kvs : List (κ × α)} {k : κ} {x : α} : (aput kvs k x).map (·.1) = if k ∈ kvs.map (·.1) then kvs.map (·.1) else kvs.map (·.1) ++ [k] := by
  unfold aput
  by_cases h : k ∈ kvs.map (·.1)
  · rw [if_pos h, if_pos (by
      obtain ⟨p, hp, e⟩ := List.mem_map.mp h
      exact List.any_eq_true.mpr ⟨p, hp, by simpa using e⟩), List.map_map]
    apply List.map_congr_left
    intro a _
    by_cases e : a.1 = k <;> simp [e]
  · rw [if_neg h, if_neg (fun z => by
      obtain ⟨p, hp, e⟩ := List.any_eq_true.mp z
      exact h (List.mem_map.mpr ⟨p, hp, by simpa using e⟩))]
    simp
theorem aput_len {kvs : List (κ × α)} {k : κ} {x : α} : (aput kvs k x).length ≤ kvs.length + 1 := by
  have := congrArg List.length (aput_keys (kvs := kvs) (k := k) (x := x))
  rw [List.length_map] at this
  rw [this]; split <;> simp
theorem aput_nodup {kvs : List (κ × α)} {k : κ} {x : α} (nd : (kvs.map (·.1)).Nodup) : ((aput kvs k x).map (·.1)).Nodup := by
  rw [aput_keys]
  split
  · exact nd
  · rename_i h
    exact List.nodup_append.mpr ⟨nd, by simp, fun a ha b hb e => by simp at hb; subst hb; subst e; exact h ha⟩
theorem aput_mem {kvs : List (κ × α)} {k : κ} {x : α} {e : κ × α} (h : e ∈ aput kvs k x) : e ∈ kvs ∨ e = (k, x) := by
  unfold aput at h
  split at h
  · obtain ⟨p, hp, rfl⟩ := List.mem_map.mp h
    by_cases e : p.1 = k
    · rw [if_pos e, e]; exact .inr rfl
    · rw [if_neg e]; exact .inl hp
  · rcases List.mem_append.mp h with h | h
    · exact .inl h
    · simp at h; exact .inr h
end
/-- keys that are ints -/
def encD {α : Type} (f : α → D) (kvs : List (Int × α)) : List (Key × D) := kvs.map fun e => (.inl e.1, f e.2)
theorem alook_encD {α : Type} {f : α → D} {kvs : List (Int × α)} {k : Int} : alook (encD f kvs) (.inl k) = (alook kvs k).map f := by
  induction kvs with
  | nil => rfl
  | cons p kvs ih =>
    show alook ((Sum.inl p.1, f p.2) :: encD f kvs) _ = _
    rw [alook_cons, alook_cons, ih]
    by_cases e : p.1 = k
    · rw [if_pos (by rw [e]), if_pos e]; rfl
    · rw [if_neg (fun z => e (by cases z; rfl)), if_neg e]
/-- keys that are pairs of ints, told True -/
def pk (p : Int × Int) : List Key := [.inl p.1, .inl p.2]
theorem pk_inj {p q : Int × Int} (h : pk p = pk q) : p = q := by
  obtain ⟨a, b⟩ := p; obtain ⟨c, d⟩ := q; simp [pk] at h; simp [h]
def encT {α : Type} (f : α → D) (kvs : List ((Int × Int) × α)) : List (List Key × D) := kvs.map fun e => (pk e.1, f e.2)
theorem aput_encT {α : Type} {f : α → D} {kvs : List ((Int × Int) × α)} {k : Int × Int} {x : α} : aput (encT f kvs) (pk k) (f x) = encT f (aput kvs k x) := by
  unfold aput encT
  rw [List.any_map]
  have : (kvs.any ((fun kv : List Key × D => decide (kv.1 = pk k)) ∘ fun e => (pk e.1, f e.2))) = kvs.any fun kv => decide (kv.1 = k) := by
    congr 1; funext e
    by_cases h : e.1 = k
    · simp [h]
    · have : ¬ pk e.1 = pk k := fun z => h (pk_inj z)
      simp [h, this]
  rw [this]
  split
  · rw [List.map_map, List.map_map]
    apply List.map_congr_left
    intro a _
    by_cases e : a.1 = k
    · simp [e]
    · have : ¬ pk a.1 = pk k := fun z => e (pk_inj z)
      simp [e, this]
  · simp
theorem v_putT {α : Type} {f : α → D} {kvs : List ((Int × Int) × α)} {a b : Int} {x : α} {N : D → Prop} (q : N (.dT (encT f (aput kvs (a, b) x)))) (hz : kvs.length < sizeLine) : putM (.dT (encT f kvs)) (.tup [.int a, .int b]) (f x) N :=
  ⟨pk (a, b), rfl, by simpa [encT] using hz, by rw [aput_encT]; exact q⟩
open PySem PySem.Spec PyProof.Rows L2
set_option linter.all false
set_option Elab.async false
set_option maxRecDepth 100000
set_option maxHeartbeats 4000000
local macro_rules | `(tactic| iterate 7773 skip) => `(tactic| try simp only [putF, newC, List.set_cons_succ, List.set_cons_zero, List.getElem?_cons_zero, List.getElem?_cons_succ, true_and])
local macro_rules | `(tactic| iterate 7770 skip) => `(tactic| simp only [entC, List.zipWith, List.length_cons, List.length_nil, List.replicate, Nat.reduceSub, Nat.reduceAdd, List.cons_append, List.nil_append, List.append_nil, entR_int, entR_bl, entR_str, entR_non, entR_lst, entR_dK, entR_dT, entR_scr, entP_int, entP_lst, entR_pr, entR_net, entP_bag])
local macro_rules | `(tactic| iterate 7771 skip) => `(tactic| repeat' (first | with_reducible refine stp ?_ | ((with_reducible refine gv_pN ?_); refine v_pN ?_) | ((with_reducible refine gv_pN2 ?_); refine v_pN2 ?_) | with_reducible refine v_take ?_ | iterate 7769 fail))
local macro_rules | `(tactic| iterate 7772 skip) => `(tactic| repeat' (first | with_reducible refine stp ?_ | ((with_reducible refine gv_pN ?_); refine v_pN ?_) | ((with_reducible refine gv_pN2 ?_); refine v_pN2 ?_) | with_reducible refine v_take ?_ | iterate 7769 fail | with_reducible refine v_ite (fun _ => ?_) (fun _ => ?_)))
/-! ### the law's nets -/
theorem atI_ints {l : List Int} {j : Int} (h0 : 0 ≤ j) (h1 : j < l.length) : ∃ m, m ∈ l ∧ atI (l.map D.int) j = some (.int m) := by
  have h : j.toNat < l.length := by omega
  exact ⟨l[j.toNat], List.getElem_mem h, atI_int h0 (by rw [List.getElem?_map, List.getElem?_eq_getElem h]; rfl)⟩
theorem v_shuf {i : Nat} {ρ : Cells} {d : D} {C : Int} {xs : List D} {G : D → List (Option D) → Prop} {Ex : Value → List (Option D) → Prop} (q : ∀ d' ys, BagS (C + xs.length) d' → ys.Perm xs → G (.lst ys) [some d', none]) (hb : BagS C d) (hp : PlainL xs) (hz : xs.length ≤ 100000) (hC : C + xs.length < 4611686018427387904)
    (h : argD [.inr i, .inl (.lst xs)] ρ = some [d, .lst xs] := by rfl) : ∃ ds, argD [.inr i, .inl (.lst xs)] ρ = some ds ∧ ds.length = 2 ∧ (argN [(.inr i : Arg), .inl (.lst xs)]).Nodup ∧ m__law_shuffled ds G Ex :=
  ⟨_, h, rfl, by simp [argN], d, C, xs, _, none, rfl, .inl rfl, .inl rfl, hp, hz, hb, hC, q⟩
theorem encT_keys {α : Type} (f : α → D) (kvs : List ((Int × Int) × α)) : ((encT f kvs).map fun e => kTD e.1) = kvs.map fun e => prD e.1 := by
  simp only [encT, List.map_map]; rfl
def nmOf (names : List Int) (i : Int) : Int := names.getD i.toNat 0
/-- lanes being drawn -/
structure Drawn (many : Int) (kvs : List ((Int × Int) × Bool)) : Prop where
  nd : (kvs.map (·.1)).Nodup
  ok : ∀ e ∈ kvs, laneOk many e.1 = true
theorem Drawn.nil {many : Int} : Drawn many [] := ⟨by simp, fun e h => (nomatch h)⟩
theorem Drawn.put {many : Int} {kvs : List ((Int × Int) × Bool)} (d : Drawn many kvs) {p : Int × Int} (h : laneOk many p = true) : Drawn many (aput kvs p true) :=
  ⟨aput_nodup d.nd, fun e he => by rcases aput_mem he with he | rfl; exact d.ok e he; exact h⟩
theorem lane_of {many a b : Int} (h1 : 0 ≤ a) (h2 : a < many) (h3 : 0 ≤ b) (h4 : b < many) (h5 : a ≠ b) : laneOk many (a, b) = true := by
  simp [laneOk, h1, h2, h3, h4, h5]
theorem laneOk_iff {many : Int} {p : Int × Int} : laneOk many p = true ↔ (0 ≤ p.1 ∧ p.1 < many) ∧ (0 ≤ p.2 ∧ p.2 < many) ∧ p.1 ≠ p.2 := by
  simp [laneOk, and_assoc]
theorem perm_ints {ys : List D} {l : List Int} (h : ys.Perm (l.map .int)) : ∃ m : List Int, ys = m.map .int ∧ m.Perm l := by
  have hall : ∀ y ∈ ys, ∃ i : Int, y = .int i := fun y hy => by
    obtain ⟨i, _, rfl⟩ := List.mem_map.mp (h.mem_iff.mp hy); exact ⟨i, rfl⟩
  have hex : ∃ m : List Int, ys = m.map .int := by
    clear h
    induction ys with
    | nil => exact ⟨[], rfl⟩
    | cons y ys ih =>
      obtain ⟨i, rfl⟩ := hall y List.mem_cons_self
      obtain ⟨m, rfl⟩ := ih fun z hz => hall z (List.mem_cons_of_mem _ hz)
      exact ⟨i :: m, rfl⟩
  obtain ⟨m, rfl⟩ := hex
  refine ⟨m, rfl, ?_⟩
  have := h.map (fun d : D => match d with | .int i => i | _ => 0)
  simpa [List.map_map, Function.comp_def] using this
def rngI (n : Int) : List Int := (List.range n.toNat).map fun i => ((i : Nat) : Int)
theorem rngI_mem {n i : Int} : i ∈ rngI n ↔ 0 ≤ i ∧ i < n := by
  simp only [rngI, List.mem_map, List.mem_range]
  exact ⟨fun ⟨k, h, e⟩ => by omega, fun ⟨h0, h1⟩ => ⟨i.toNat, by omega, by omega⟩⟩
theorem rngI_nodup (n : Int) : (rngI n).Nodup := by
  unfold rngI
  rw [List.nodup_iff_pairwise_ne, List.pairwise_map]
  exact List.nodup_range.imp fun h e => h (by omega)
theorem rngI_D (n : Int) : ((List.range n.toNat).map fun i => D.int ((i : Nat) : Int)) = (rngI n).map .int := by simp [rngI, Function.comp_def]
theorem rngI_len (n : Int) : (rngI n).length = n.toNat := by simp [rngI]
/-- names: each place's other number -/
structure Names (n : Int) (names : List Int) : Prop where
  perm : names.Perm (rngI n)
theorem Names.at {n : Int} {names : List Int} (h : Names n names) {i : Int} (h0 : 0 ≤ i) (h1 : i < n) : names[i.toNat]? = some (nmOf names i) ∧ 0 ≤ nmOf names i ∧ nmOf names i < n := by
  have hl : names.length = n.toNat := by rw [h.perm.length_eq, rngI_len]
  have e := getD_at (l := names) (k := i.toNat) (d := 0) (by omega)
  refine ⟨e, ?_⟩
  have := h.perm.mem_iff.mp (List.mem_of_getElem? e)
  exact rngI_mem.mp this
theorem Names.inj {n : Int} {names : List Int} (h : Names n names) {i j : Int} (hi : 0 ≤ i ∧ i < n) (hj : 0 ≤ j ∧ j < n) (e : nmOf names i = nmOf names j) : i = j := by
  have nd : names.Nodup := h.perm.nodup_iff.mpr (rngI_nodup n)
  have h1 := (h.at hi.1 hi.2).1
  have h2 := (h.at hj.1 hj.2).1
  rw [e] at h1
  obtain ⟨a, b⟩ := List.getElem?_eq_some_iff.mp h1
  obtain ⟨c, d⟩ := List.getElem?_eq_some_iff.mp h2
  have := (List.getElem_inj (h₀ := a) (h₁ := c) nd).mp (b.trans d.symm)
  omega
theorem pltB_iff {p q : Int × Int} : pltB p q = true ↔ p.1 < q.1 ∨ (p.1 = q.1 ∧ p.2 < q.2) := by
  unfold pltB
  rw [HT.lexLt_cons, HT.lexLt_cons, HT.lexLt_nil_nil]
  by_cases e : p.1 = q.1
  · rw [if_pos e]
    by_cases e2 : p.2 = q.2
    · rw [if_pos e2]; simp; omega
    · rw [if_neg e2]; simp; omega
  · rw [if_neg e]; simp; omega
theorem psort_strict {l : List (Int × Int)} (nd : l.Nodup) : (psort l).Pairwise (fun a b => pltB a b = true) := by
  have h1 := psort_sorted l
  have h2 : (psort l).Nodup := (psort_perm l).nodup_iff.mpr nd
  refine (h1.and h2).imp fun {a b} h => ?_
  rw [pltB_iff]
  rcases h.1 with h3 | ⟨h3, h4⟩
  · exact .inl h3
  · refine .inr ⟨h3, ?_⟩
    have : a.2 ≠ b.2 := fun e => h.2 (Prod.ext h3 e)
    omega
theorem isNetB_of {N : Net} (h1 : 1 ≤ N.n) (h2 : N.n ≤ 24) (h3 : N.lanes.length ≤ 120) (h4 : ∀ p ∈ N.lanes, laneOk N.n p = true) (h5 : N.lanes.Pairwise (fun a b => pltB a b = true)) : isNetB N = true := by
  unfold isNetB
  simp only [Bool.and_eq_true, decide_eq_true_eq, List.all_eq_true]
  refine ⟨⟨⟨⟨h1, h2⟩, h3⟩, h4⟩, fun i hi => ?_⟩
  have hi : i + 1 < N.lanes.length := by have := List.mem_range.mp hi; omega
  have := List.pairwise_iff_getElem.mp h5 i (i + 1) (by omega) hi (by omega)
  rw [List.getD_eq_getElem?_getD, List.getD_eq_getElem?_getD, List.getElem?_eq_getElem (by omega), List.getElem?_eq_getElem hi]
  exact this
theorem isNetB_inv {N : Net} (h : isNetB N = true) : 1 ≤ N.n ∧ N.n ≤ 24 ∧ N.lanes.length ≤ 120 ∧ (∀ p ∈ N.lanes, laneOk N.n p = true) ∧ N.lanes.Pairwise (fun a b => pltB a b = true) := by
  unfold isNetB at h
  simp only [Bool.and_eq_true, decide_eq_true_eq, List.all_eq_true] at h
  obtain ⟨⟨⟨⟨h1, h2⟩, h3⟩, h4⟩, h5⟩ := h
  refine ⟨h1, h2, h3, h4, ?_⟩
  have step : ∀ i (hi : i + 1 < N.lanes.length), pltB N.lanes[i] N.lanes[i + 1] = true := fun i hi => by
    have := h5 i (List.mem_range.mpr (by omega))
    rw [List.getD_eq_getElem?_getD, List.getD_eq_getElem?_getD, List.getElem?_eq_getElem (by omega), List.getElem?_eq_getElem hi] at this
    exact this
  rw [List.pairwise_iff_getElem]
  intro i j hi hj hij
  induction j with
  | zero => omega
  | succ j ih =>
    by_cases e : i = j
    · subst e; exact step i hj
    · have h6 := pltB_iff.mp (ih (by omega) (by omega))
      have h7 := pltB_iff.mp (step j hj)
      rw [pltB_iff]; omega
/-- a drawn net -/
theorem drawn_net {many : Int} {kvs : List ((Int × Int) × Bool)} {names : List Int} (hm : 1 ≤ many) (hm2 : many ≤ 24) (d : Drawn many kvs) (hl : kvs.length ≤ 120) (hn : Names many names) :
    isNetB ⟨many, psort (kvs.map fun e => (nmOf names e.1.1, nmOf names e.1.2))⟩ = true := by
  have ok : ∀ e ∈ kvs, laneOk many (nmOf names e.1.1, nmOf names e.1.2) = true := fun e he => by
    obtain ⟨h1, h2, h3⟩ := laneOk_iff.mp (d.ok e he)
    have a := (hn.at h1.1 h1.2).2
    have b := (hn.at h2.1 h2.2).2
    exact lane_of a.1 a.2 b.1 b.2 fun z => h3 (hn.inj h1 h2 z)
  refine isNetB_of hm hm2 ?_ (fun p hp => ?_) (psort_strict ?_)
  · show (psort _).length ≤ 120
    rw [(psort_perm _).length_eq]; simpa using hl
  · have hp : p ∈ psort (kvs.map fun e => (nmOf names e.1.1, nmOf names e.1.2)) := hp
    rw [(psort_perm _).mem_iff] at hp
    obtain ⟨e, he, rfl⟩ := List.mem_map.mp hp
    exact ok e he
  · rw [List.nodup_iff_pairwise_ne, List.pairwise_map]
    have hk : kvs.Pairwise (fun a b => a.1 ≠ b.1) := by
      have := d.nd
      rw [List.nodup_iff_pairwise_ne, List.pairwise_map] at this
      exact this
    refine hk.imp_of_mem fun {a b} ha hb hne e => hne ?_
    obtain ⟨h1, h2, _⟩ := laneOk_iff.mp (d.ok a ha)
    obtain ⟨h3, h4, _⟩ := laneOk_iff.mp (d.ok b hb)
    simp only [Prod.mk.injEq] at e
    exact Prod.ext (hn.inj h1 h3 e.1) (hn.inj h2 h4 e.2)
def m__law_net : DCE := fun ds R Ex => ∃ d C most, ds = [d, .int most] ∧ 1 ≤ most ∧ most ≤ 24 ∧ BagS C d ∧ C + 2000 < 4611686018427387904 ∧ ∀ d' N g, BagS (C + 2000) d' → isNetB N = true → N.n ≤ most → 0 ≤ g → g < N.n → R (.tup [netD N, .int g]) [some d', none]
local macro_rules | `(tactic| iterate 7773 skip) => `(tactic| try simp only [putF, newC, List.set_cons_succ, List.set_cons_zero, List.getElem?_cons_zero, List.getElem?_cons_succ, true_and])
local macro_rules | `(tactic| iterate 7770 skip) => `(tactic| simp only [entC, List.zipWith, List.length_cons, List.length_nil, List.replicate, Nat.reduceSub, Nat.reduceAdd, List.cons_append, List.nil_append, List.append_nil, entR_int, entR_bl, entR_str, entR_non, entR_lst, entR_dK, entR_dT, entR_scr, entP_int, entP_lst, entR_pr, entR_net, entP_bag])
local macro_rules | `(tactic| iterate 7771 skip) => `(tactic| repeat' (first | with_reducible refine stp ?_ | ((with_reducible refine gv_pN ?_); refine v_pN ?_) | ((with_reducible refine gv_pN2 ?_); refine v_pN2 ?_) | with_reducible refine v_shuf ?_ | with_reducible refine v_take ?_ | iterate 7769 fail))
local macro_rules | `(tactic| iterate 7772 skip) => `(tactic| repeat' (first | with_reducible refine stp ?_ | ((with_reducible refine gv_pN ?_); refine v_pN ?_) | ((with_reducible refine gv_pN2 ?_); refine v_pN2 ?_) | with_reducible refine v_shuf ?_ | with_reducible refine v_take ?_ | iterate 7769 fail | with_reducible refine v_ite (fun _ => ?_) (fun _ => ?_)))
/- slots: 0 bag 1 most 2 many 3 way 4 more 5 lanes 6 k 7 turn 8 one 9 other 10 names 11 gate -/
def t__law_net : ESt := (sSeq (sSet 2 (eIxO (eLst (eaCons (ePure (pName 1)) (eaCons (eBin addM (ePure (pC (.int 1))) (eCall m__law_take 2 (enName 0 (enVal (ePure (pName 1)) enNil)))) (eaCons (eBin addM (ePure (pC (.int 1))) (eCall m__law_take 2 (enName 0 (enVal (ePure (pCall min2M' (aCons (pC (.int 7)) (aCons (pName 1) aNil)))) enNil)))) eaNil)))) (eCall m__law_take 2 (enName 0 (enVal (ePure (pC (.int 3))) enNil)))))
  (sSeq (sSet 3 (eCall m__law_take 2 (enName 0 (enVal (ePure (pC (.int 4))) enNil))))
  (sSeq (sSet 4 (eIxO (eLst (eaCons (ePure (pC (.int 0))) (eaCons (ePure (pC (.int 1))) (eaCons (eCall m__law_take 2 (enName 0 (enVal (ePure (pBin addM (pName 2) (pC (.int 1)))) enNil))) (eaCons (eBin addM (ePure (pName 2)) (eCall m__law_take 2 (enName 0 (enVal (ePure (pBin mulM' (pC (.int 5)) (pName 2))) enNil)))) (eaCons (ePure (pC (.int 120))) eaNil)))))) (eCall m__law_take 2 (enName 0 (enVal (ePure (pC (.int 5))) enNil)))))
  (sSeq (sSet 5 (ePure (pD0 (.dT []))))
  (sSeq (sFor (iRg2 (eaCons (ePure (pC (.int 1))) (eaCons (ePure (pName 2)) eaNil))) (gnName 6) (sIf (etPure (tVal (pBin ltM (pName 3) (pC (.int 3))))) (sPut 5 (eTup (eaCons (eIxO (eLst (eaCons (eCall m__law_take 2 (enName 0 (enVal (ePure (pName 6)) enNil))) (eaCons (eBin subM (ePure (pBin subM (pName 6) (pC (.int 1)))) (eCall m__law_take 2 (enName 0 (enVal (ePure (pCall min2M' (aCons (pName 6) (aCons (pC (.int 2)) aNil)))) enNil)))) (eaCons (ePure (pC (.int 0))) eaNil)))) (ePure (pName 3))) (eaCons (ePure (pName 6)) eaNil))) (ePure (pC (.bl true)))) sNext))
  (sSeq (sFor (iRg1 (eaCons (ePure (pName 4)) eaNil)) (gnName 7) (sSeq (sSet 8 (eCall m__law_take 2 (enName 0 (enVal (ePure (pName 2)) enNil))))
  (sSeq (sSet 9 (eIxO (eLst (eaCons (eCall m__law_take 2 (enName 0 (enVal (ePure (pName 2)) enNil))) (eaCons (eBin modM (eBin addM (ePure (pBin addM (pName 8) (pC (.int 1)))) (eCall m__law_take 2 (enName 0 (enVal (ePure (pC (.int 2))) enNil)))) (ePure (pName 2))) eaNil))) (eCall m__law_take 2 (enName 0 (enVal (ePure (pC (.int 2))) enNil)))))
  (sIf (etPure (tAndD (tVal (pBin neM (pName 8) (pName 9))) (tVal (pBin ltM (pCall lenM (aCons (pName 5) aNil)) (pC (.int 120)))))) (sPut 5 (ePure (pTup (aCons (pName 8) (aCons (pName 9) aNil)))) (ePure (pC (.bl true)))) sNext))))
  (sSeq (sSet 10 (eCall m__law_shuffled 2 (enName 0 (enVal (ePure (pRg1 .lst (pName 2))) enNil))))
  (sSeq (sSet 11 (eIxO (eLst (eaCons (ePure (pBin ixM (pName 10) (pC (.int 0)))) (eaCons (ePure (pBin ixM (pName 10) (pC (.int 0)))) (eaCons (eCall m__law_take 2 (enName 0 (enVal (ePure (pName 2)) enNil))) eaNil)))) (eCall m__law_take 2 (enName 0 (enVal (ePure (pC (.int 3))) enNil)))))
  (sRet (ePure (pTup (aCons (pTup (aCons (pName 2) (aCons (pCall tupleM (aCons (pCall sortedM (aCons (pLcD 5 (bTup 2 (bCons (bName 8) (bCons (bName 9) bNil))) tYesD (pTup (aCons (pBin ixM (pName 10) (pName 8)) (aCons (pBin ixM (pName 10) (pName 9)) aNil))) [8, 9]) aNil)) aNil)) aNil))) (aCons (pName 11) aNil)))))))))))))

theorem w__law_net {ds : List D} {R : D → List (Option D) → Prop} {Ex : Value → List (Option D) → Prop} {vs : List V} (hm : m__law_net ds R Ex) (hl : vs.length = 2) (hd : ds.length = 2) : t__law_net (fun cls ρ' => ∃ fs, Ex cls fs ∧ fs.length = 2 ∧ finOk fs vs ρ')
      { nx := fun ρ' => ∃ fs, R .non fs ∧ fs.length = 2 ∧ finOk fs vs ρ', rt := fun d o ρ' => o = true ∧ ∃ fs, R d fs ∧ fs.length = 2 ∧ finOk fs vs ρ' } (entC 12 entP ds vs) := by
  obtain ⟨d, C, most, rfl, hm1, hm2, hbag, hC, hr⟩ := hm
  obtain ⟨v1, v2, rfl⟩ := vs2 hl
  have hd0 : ∀ {C d}, BagS C d → entP d v1 = .pin d v1 := by rintro C d ⟨a, b, c, rfl, _⟩; rfl
  iterate 7770 skip
  rw [hd0 hbag]
  unfold t__law_net
  iterate 7772 skip
  refine v_take (fun d1 r1 b1 hr10 hr11 => ?_) hbag (by omega) (by omega) (by omega)
  iterate 7772 skip
  refine v_take (fun d2 r2 b2 hr20 hr21 => ?_) b1 (by split <;> omega) (by split <;> omega) (by omega)
  iterate 7772 skip
  refine v_take (fun d3 r3 b3 hr30 hr31 => ?_) b2 (by omega) (by omega) (by omega)
  iterate 7772 skip
  obtain ⟨many, hmany, e1⟩ := atI_ints (l := [most, 1 + r1, 1 + r2]) hr30 (by simpa using hr31)
  have hmany : 1 ≤ many ∧ many ≤ most := by
    have h21 : r2 < most := by split at hr21 <;> omega
    simp at hmany; omega
  refine ⟨_, _, _, .inl rfl, rfl, e1, ?_⟩
  iterate 7772 skip
  refine v_take (fun d4 way b4 hw0 hw1 => ?_) b3 (by omega) (by omega) (by omega)
  iterate 7772 skip
  refine v_take (fun d5 r5 b5 hr50 hr51 => ?_) b4 (by omega) (by omega) (by omega)
  iterate 7772 skip
  refine v_take (fun d6 r6 b6 hr60 hr61 => ?_) b5 (by omega) (by omega) (by omega)
  iterate 7772 skip
  refine v_take (fun d7 r7 b7 hr70 hr71 => ?_) b6 (by omega) (by omega) (by omega)
  iterate 7772 skip
  obtain ⟨more, hmore, e2⟩ := atI_ints (l := [0, 1, r5, many + r6, 120]) hr70 (by simpa using hr71)
  have hmore : 0 ≤ more ∧ more ≤ 144 := by simp at hmore; omega
  refine ⟨_, _, _, .inl rfl, rfl, e2, ?_⟩
  iterate 7772 skip
  refine ⟨by omega, by omega, by omega, by omega, ?_⟩
  iterate 7772 skip
  refine for_preT (fun pre ρ => ∃ d kvs c6, BagS (C + 7 + 2 * pre.length) d ∧ Drawn many kvs ∧ kvs.length ≤ pre.length ∧
    ρ = [Cell.pin d v1, Cell.own (D.int most), Cell.own (.int many), Cell.own (.int way), Cell.own (.int more), Cell.own (.dT (encT D.bl kvs)), c6, Cell.no, Cell.no, Cell.no, Cell.no, Cell.no])
    ⟨d7, [], .no, by simpa using b7.mono (by omega), Drawn.nil, by simp, rfl⟩ (fun pre x post ρ2 he hI => ?_) (fun ρ2 hI => ?_)
  · obtain ⟨d, kvs, c6, hb, hd, hkl, rfl⟩ := hI
    have hpl : pre.length + 1 ≤ (many - 1).toNat := by
      have := congrArg List.length he; simp at this; omega
    have hx : x < (many - 1).toNat := List.mem_range.mp (by rw [he]; simp)
    have hx2 : x = pre.length := by
      have h1 : (List.range (many - 1).toNat)[pre.length]? = some x := by rw [he]; simp
      rw [List.getElem?_range (by omega)] at h1
      simpa using h1.symm
    iterate 7772 skip
    · rename_i hway
      have hway : way < 3 := by simpa using hway
      refine v_take (fun d1 s1 c1 hs10 hs11 => ?_) hb (by omega) (by omega) (by omega)
      iterate 7772 skip
      refine v_take (fun d2 s2 c2 hs20 hs21 => ?_) c1 (by split <;> omega) (by split <;> omega) (by omega)
      iterate 7772 skip
      obtain ⟨a, ha, e3⟩ := atI_ints (l := [s1, 1 + (x : Int) - 1 - s2, 0]) hw0 (by simpa using hway)
      have ha : 0 ≤ a ∧ a < 1 + (x : Int) := by simp at ha; split at hs21 <;> omega
      refine ⟨_, _, _, .inl rfl, rfl, e3, ?_⟩
      iterate 7772 skip
      refine ⟨_, _, rfl, rfl, v_putT (f := D.bl) (kvs := kvs) ?_ (by rw [sizeLine_eq]; omega)⟩
      refine ⟨d2, aput kvs (a, 1 + (x : Int)) true, _, c2.mono (by simp; omega), hd.put (lane_of ha.1 (by omega) (by omega) (by omega) (by omega)), ?_, rfl⟩
      have := aput_len (kvs := kvs) (k := (a, 1 + (x : Int))) (x := true)
      simp; omega
    · exact ⟨d, kvs, _, hb.mono (by simp; omega), hd, by simp; omega, rfl⟩
  · obtain ⟨d, kvs, c6, hb, hd, hkl, rfl⟩ := hI
    simp only [List.length_range] at hb hkl
    iterate 7772 skip
    refine ⟨by omega, by omega, ?_⟩
    iterate 7772 skip
    refine for_preT (fun pre ρ => ∃ d kvs c7 c8 c9, BagS (C + 60 + 4 * pre.length) d ∧ Drawn many kvs ∧ kvs.length ≤ 120 ∧
      ρ = [Cell.pin d v1, Cell.own (D.int most), Cell.own (.int many), Cell.own (.int way), Cell.own (.int more), Cell.own (.dT (encT D.bl kvs)), c6, c7, c8, c9, Cell.no, Cell.no])
      ⟨d, kvs, .no, .no, .no, hb.mono (by simp; omega), hd, by omega, rfl⟩ (fun pre x post ρ2 he hI => ?_) (fun ρ2 hI => ?_)
    · obtain ⟨d, kvs, c7, c8, c9, hb, hd, hkl, rfl⟩ := hI
      have hpl : pre.length + 1 ≤ more.toNat := by
        have := congrArg List.length he; simp at this; omega
      iterate 7772 skip
      refine v_take (fun d1 one c1 ho0 ho1 => ?_) hb (by omega) (by omega) (by omega)
      iterate 7772 skip
      refine v_take (fun d2 s2 c2 hs20 hs21 => ?_) c1 (by omega) (by omega) (by omega)
      iterate 7772 skip
      refine v_take (fun d3 s3 c3 hs30 hs31 => ?_) c2 (by omega) (by omega) (by omega)
      iterate 7772 skip
      refine v_take (fun d4 s4 c4 hs40 hs41 => ?_) c3 (by omega) (by omega) (by omega)
      iterate 7772 skip
      obtain ⟨other, ho, e3⟩ := atI_ints (l := [s2, (one + 1 + s3) % many]) hs40 (by simpa using hs41)
      have ho : 0 ≤ other ∧ other < many := by
        have := Int.emod_nonneg (one + 1 + s3) (show many ≠ 0 by omega)
        have := Int.emod_lt_of_pos (one + 1 + s3) (show 0 < many by omega)
        simp at ho; rcases ho with rfl | rfl <;> omega
      refine ⟨_, _, _, .inl rfl, rfl, e3, ?_⟩
      iterate 7772 skip
      · rename_i h1 h2
        refine ⟨_, _, rfl, rfl, v_putT (f := D.bl) (kvs := kvs) ?_ (by rw [sizeLine_eq]; omega)⟩
        have hne : one ≠ other := by simpa using h1
        have hlt : kvs.length < 120 := by simp [encT] at h2; omega
        refine ⟨d4, aput kvs (one, other) true, _, _, _, c4.mono (by simp; omega), hd.put (lane_of ho0 ho1 ho.1 ho.2 hne), ?_, rfl⟩
        have := aput_len (kvs := kvs) (k := (one, other)) (x := true)
        omega
      · exact ⟨d4, kvs, _, _, _, c4.mono (by simp; omega), hd, hkl, rfl⟩
      · exact ⟨d4, kvs, _, _, _, c4.mono (by simp; omega), hd, hkl, rfl⟩
    · obtain ⟨d, kvs, c7, c8, c9, hb, hd, hkl, rfl⟩ := hI
      simp only [List.length_range] at hb
      iterate 7772 skip
      refine ⟨by omega, by omega, ?_⟩
      rw [rngI_D]
      iterate 7772 skip
      refine v_shuf (fun d1 ys c1 hp => ?_) hb (PlainL.ints _) (by simp [rngI_len]; omega) (by simp [rngI_len]; omega)
      obtain ⟨names, rfl, hpn⟩ := perm_ints hp
      have hn : Names many names := ⟨hpn⟩
      simp only [List.length_map, rngI_len] at c1
      iterate 7772 skip
      refine ⟨_, atI_int (k := 0) (by omega) (by rw [List.getElem?_map, (hn.at (i := 0) (by omega) (by omega)).1]; rfl), ?_⟩
      iterate 7772 skip
      refine ⟨_, atI_int (k := 0) (by omega) (by rw [List.getElem?_map, (hn.at (i := 0) (by omega) (by omega)).1]; rfl), ?_⟩
      iterate 7772 skip
      refine v_take (fun d2 s2 c2 hs20 hs21 => ?_) c1 (by omega) (by omega) (by omega)
      iterate 7772 skip
      refine v_take (fun d3 s3 c3 hs30 hs31 => ?_) c2 (by omega) (by omega) (by omega)
      iterate 7772 skip
      obtain ⟨gate, hgt, e3⟩ := atI_ints (l := [nmOf names 0, nmOf names 0, s2]) hs30 (by simpa using hs31)
      have hgt : 0 ≤ gate ∧ gate < many := by
        have := (hn.at (i := 0) (by omega) (by omega)).2
        simp at hgt; rcases hgt with rfl | rfl <;> omega
      refine ⟨_, _, _, .inl rfl, rfl, e3, ?_⟩
      iterate 7772 skip
      rw [encT_keys]
      refine lc_map (fun e => prD (nmOf names e.1.1, nmOf names e.1.2)) (fun e hek ys i hy => ?_) ?_
      · obtain ⟨h1, h2, _⟩ := laneOk_iff.mp (hd.ok e hek)
        iterate 7772 skip
        refine ⟨_, atI_int h1.1 (by rw [List.getElem?_map, (hn.at h1.1 h1.2).1]; rfl), ?_⟩
        iterate 7772 skip
        refine ⟨_, atI_int h2.1 (by rw [List.getElem?_map, (hn.at h2.1 h2.2).1]; rfl), ?_⟩
        iterate 7772 skip
        exact hy
      iterate 7772 skip
      exact ⟨[some d3, none], hr d3 ⟨many, psort (kvs.map fun e : (Int × Int) × Bool => (nmOf names e.1.1, nmOf names e.1.2))⟩ gate (c3.mono (by omega)) (drawn_net (by omega) (by omega) hd hkl hn) hmany.2 hgt.1 hgt.2, rfl, rfl, trivial⟩

open PySem PySem.Spec PyProof.Rows L2
set_option linter.all false
set_option Elab.async false
set_option maxRecDepth 100000
set_option maxHeartbeats 4000000
/-! ### the law's own walk -/
def clD : Option Int → D
  | none => .non
  | some c => .int c
theorem clD_imm (c : Option Int) : (clD c).imm = true := by cases c <;> rfl
theorem entR_cl (c : Option Int) (v : V) : entR (clD c) v = .own (clD c) := entR_imm (clD_imm c) v
theorem v_neC {g : Int} {c : Option Int} {R : DR} (q : R (.bl (decide (c ≠ some g))) true) : neM (.int g) (clD c) R := by
  cases c with
  | none => exact ⟨rfl, rfl, by simpa [clD, D.eqv] using q⟩
  | some c =>
    refine ⟨rfl, rfl, ?_⟩
    have : (!(D.int g).eqv (clD (some c))) = decide (some c ≠ some g) := by
      simp only [clD, D.eqv]
      by_cases h : g = c
      · subst h; simp
      · have h2 : ¬ c = g := fun z => h z.symm
        simp [h, h2]
    rw [this]; exact q
instance iv_neC {g : Int} {c : Option Int} {R : DR} : Step (neM (.int g) (clD c) R) (R (.bl (decide (c ≠ some g))) true) := ⟨fun q => v_neC q⟩
abbrev lsI (r : List Int) : D := .lst (r.map .int)
def succL (L : List (Int × Int)) (q : Int) : List Int := (L.filter fun p => p.1 == q).map (·.2)
theorem succL_snoc (L : List (Int × Int)) (p : Int × Int) (q : Int) : succL (L ++ [p]) q = if p.1 = q then succL L q ++ [p.2] else succL L q := by
  by_cases h : p.1 = q
  · simp [succL, List.filter_append, List.filter_cons, h]
  · simp [succL, List.filter_append, List.filter_cons, h]
structure Ahead (L : List (Int × Int)) (kvs : List (Int × List Int)) : Prop where
  len : kvs.length ≤ L.length
  at_ : ∀ q, alook kvs q = if succL L q = [] then none else some (succL L q)
theorem Ahead.nil : Ahead [] [] := ⟨by simp, fun q => by simp [succL, alook]⟩
theorem Ahead.put {L : List (Int × Int)} {kvs : List (Int × List Int)} (a : Ahead L kvs) (p : Int × Int) : Ahead (L ++ [p]) (aput kvs p.1 (succL L p.1 ++ [p.2])) := by
  refine ⟨?_, fun q => ?_⟩
  · have := aput_len (kvs := kvs) (k := p.1) (x := succL L p.1 ++ [p.2])
    have := a.len
    simp; omega
  · rw [alook_aput, succL_snoc]
    by_cases h : p.1 = q
    · rw [if_pos h, if_pos h]; subst h; simp
    · rw [if_neg h, if_neg h]; exact a.at_ q
def dB (F : List Int) : D := .dK (encD D.bl (F.map fun p => (p, true)))
theorem v_inB {neg : Bool} {t : Int} {F : List Int} {R : DR} (q : R (.bl (xor neg (decide (t ∈ F)))) true) : inM neg (.int t) (dB F) R := by
  refine ⟨.inl t, rfl, ?_⟩
  show R (.bl (neg ^^ (alook (encD D.bl (F.map fun p => (p, true))) (.inl t)).isSome)) true
  have : (alook (encD D.bl (F.map fun p => (p, true))) (.inl t)).isSome = decide (t ∈ F) := by
    rw [alook_encD, Option.isSome_map]
    by_cases h : t ∈ F
    · rw [alook_some_iff.mpr (by simpa [Function.comp_def] using h)]; simp [h]
    · have : ¬ (alook (F.map fun p => (p, true)) t).isSome = true := fun z => h (by simpa [Function.comp_def] using alook_some_iff.mp z)
      simp [h, this]
  rw [this]; exact q
instance iv_inB {neg : Bool} {t : Int} {F : List Int} {R : DR} : Step (inM neg (.int t) (dB F) R) (R (.bl (xor neg (decide (t ∈ F)))) true) := ⟨fun q => v_inB q⟩
theorem v_lisB {F : List Int} {R : DR} (q : R (.lst (F.map .int)) true) : listM [dB F] R := by
  show R (.lst ((encD D.bl (F.map fun p => (p, true))).map fun kv => kD kv.1)) true
  have : ((encD D.bl (F.map fun p => (p, true))).map fun kv => kD kv.1) = F.map .int := by simp [encD, Function.comp_def, kD]
  rw [this]; exact q
instance iv_lisB {F : List Int} {R : DR} : Step (listM [dB F] R) (R (.lst (F.map .int)) true) := ⟨fun q => v_lisB q⟩
/-- a net whose lanes stand in a tuple or in a list -/
def NetA (A : D) (N : Net) : Prop := A = .tup [.int N.n, .tup (N.lanes.map prD)] ∨ A = .tup [.int N.n, .lst (N.lanes.map prD)]
def NetC (c : Cell) (N : Net) : Prop := ∃ A, NetA A N ∧ (c = .own A ∨ ∃ v, c = .ro A v)
theorem NetA.cell {A : D} {N : Net} (h : NetA A N) (v : V) : NetC (entR A v) N := by
  refine ⟨A, h, ?_⟩
  unfold entR
  split
  · exact .inl rfl
  · exact .inr ⟨v, rfl⟩
def m__law_reach : DCX := fun ds R Ex => ∃ N A g c, ds = [A, .int g, clD c] ∧ NetA A N ∧ NetOk N.n N.lanes ∧ N.n ≤ 1000 ∧ N.lanes.length < 1000 ∧ (0 ≤ g ∧ g < N.n) ∧ ∀ F : List Int, F.Nodup → (∀ p, p ∈ F ↔ Reach N.lanes c.toList g p) → R (.lst (F.map .int)) true
/-- a search in depth -/
structure Dfs (L : List (Int × Int)) (c : Option Int) (g : Int) (F row : List Int) : Prop where
  nd : F.Nodup
  nr : row.Nodup
  ok : ∀ p ∈ F, Reach L c.toList g p
  sub : ∀ p ∈ row, p ∈ F
  go : ∀ q ∈ F, q ∉ row → ∀ t, (q, t) ∈ L → c ≠ some t → t ∈ F
  st : c ≠ some g → g ∈ F
theorem not_cl {c : Option Int} {p : Int} : p ∉ c.toList ↔ c ≠ some p := by cases c <;> simp [eq_comm]
theorem Dfs.done {L c g F} (d : Dfs L c g F []) (p : Int) : p ∈ F ↔ Reach L c.toList g p := by
  refine ⟨d.ok p, fun ⟨k, hk⟩ => ?_⟩
  induction k generalizing p with
  | zero => obtain ⟨rfl, h⟩ := hk; exact d.st (not_cl.mp h)
  | succ k ih => obtain ⟨q, h1, h2, h3⟩ := hk; exact d.go q (ih q ⟨_, h1⟩ h1) List.not_mem_nil p h2 (not_cl.mp h3)
local macro_rules | `(tactic| iterate 7773 skip) => `(tactic| try simp only [putF, newC, List.set_cons_succ, List.set_cons_zero, List.getElem?_cons_zero, List.getElem?_cons_succ, true_and])
local macro_rules | `(tactic| iterate 7770 skip) => `(tactic| simp only [entC, List.zipWith, List.length_cons, List.length_nil, List.replicate, Nat.reduceSub, Nat.reduceAdd, List.cons_append, List.nil_append, List.append_nil, entR_int, entR_bl, entR_str, entR_non, entR_lst, entR_dK, entR_dT, entR_scr, entP_int, entP_lst, entR_pr, entR_net, entP_bag, entR_cl])
local macro_rules | `(tactic| iterate 7771 skip) => `(tactic| repeat' (first | with_reducible refine stp ?_ | ((with_reducible refine gv_pN ?_); refine v_pN ?_) | ((with_reducible refine gv_pN2 ?_); refine v_pN2 ?_) | with_reducible refine v_shuf ?_ | with_reducible refine v_take ?_ | iterate 7769 fail))
local macro_rules | `(tactic| iterate 7772 skip) => `(tactic| repeat' (first | with_reducible refine stp ?_ | ((with_reducible refine gv_pN ?_); refine v_pN ?_) | ((with_reducible refine gv_pN2 ?_); refine v_pN2 ?_) | with_reducible refine v_shuf ?_ | with_reducible refine v_take ?_ | iterate 7769 fail | with_reducible refine v_ite (fun _ => ?_) (fun _ => ?_)))
def RI (N : Net) (g : Int) (c : Option Int) (kvs : List (Int × List Int)) (c0 c4 : Cell) (m : Nat) (ρ : Cells) : Prop :=
  ∃ F row c3 c5, m = 2 * (N.n.toNat - F.length) + row.length ∧ Dfs N.lanes c g F row ∧ (c3 = Cell.own (.dK (encD lsI kvs)) ∨ ∃ v, c3 = Cell.ro (.dK (encD lsI kvs)) v) ∧
    ρ = [c0, Cell.own (D.int g), Cell.own (clD c), c3, c4, c5, .own (dB F), .own (.lst (row.map .int))]
open PySem PySem.Spec PyProof.Rows L2
set_option linter.all false
set_option Elab.async false
set_option maxRecDepth 100000
set_option maxHeartbeats 4000000
/-! ### equal things -/
mutual
theorem eqv_self : ∀ (d : D) (n : Nat), d.shp n = true → d.eqv d = true
  | .non, _, _ => by simp [D.eqv]
  | .bl b, _, _ => by simp [D.eqv]
  | .int i, _, _ => by simp [D.eqv]
  | .str s, _, _ => by simp [D.eqv]
  | .tup xs, n, h => by
    cases n with
    | zero => simp [D.shp] at h
    | succ n => simp only [D.eqv]; exact eqvL_self xs n (by simpa [D.shp] using h)
  | .lst xs, n, h => by
    cases n with
    | zero => simp [D.shp] at h
    | succ n => simp only [D.eqv]; exact eqvL_self xs n (by simpa [D.shp] using h)
  | .dK _, n, h => by cases n <;> simp [D.shp] at h
  | .dT _, n, h => by cases n <;> simp [D.shp] at h
  | .ins _ _, n, h => by cases n <;> simp [D.shp] at h
  | .scr _, n, h => by cases n <;> simp [D.shp] at h
  | .ptr _, n, h => by cases n <;> simp [D.shp] at h
  | .ord _, _, _ => by simp [D.eqv]
  | .fl xs, n, h => by
    cases n with
    | zero => simp [D.shp] at h
    | succ n => simp only [D.eqv]; exact eqvL_self xs n (by simpa [D.shp] using h)
theorem eqvL_self : ∀ (xs : List D) (n : Nat), (∀ x ∈ xs, x.shp n = true) → eqvL xs xs = true
  | [], _, _ => by simp [eqvL]
  | x :: xs, n, h => by
    simp only [eqvL, Bool.and_eq_true]
    exact ⟨eqv_self x n (h x List.mem_cons_self), eqvL_self xs n fun y hy => h y (List.mem_cons_of_mem _ hy)⟩
end
theorem neM_self {d d' : D} {R : DR} (q : R (.bl false) true) (h : d.shp 9 = true) (e : d' = d) : neM d d' R := by
  subst e
  refine ⟨h, h, ?_⟩
  rw [eqv_self d' 9 h]; exact q
/-! ### turned about -/
def swp (p : Int × Int) : Int × Int := (p.2, p.1)
theorem Reach.cons {L : List (Int × Int)} {a b p : Int} (h : (a, b) ∈ L) (hr : Reach L [] b p) : Reach L [] a p := by
  obtain ⟨k, hk⟩ := hr
  refine ⟨k + 1, ?_⟩
  induction k generalizing p with
  | zero => obtain ⟨rfl, _⟩ := hk; exact ⟨a, ⟨rfl, by simp⟩, h, by simp⟩
  | succ k ih => obtain ⟨q, h1, h2, h3⟩ := hk; exact ⟨q, ih h1, h2, h3⟩
theorem Reach.rev {L L' : List (Int × Int)} (hL : ∀ a b, (a, b) ∈ L → (b, a) ∈ L') {g p : Int} (h : Reach L [] g p) : Reach L' [] p g := by
  obtain ⟨k, hk⟩ := h
  induction k generalizing p with
  | zero => obtain ⟨rfl, _⟩ := hk; exact ⟨0, rfl, by simp⟩
  | succ k ih => obtain ⟨q, h1, h2, _⟩ := hk; exact (ih h1).cons (hL _ _ h2)
theorem v_slS {ns : List Int} {lo hi : Option Int} {R : DR} (q : R (.lst ((cutA ns lo hi).map .int)) true) : slM (.scr ns) lo hi R := q
instance iv_slS {ns : List Int} {lo hi : Option Int} {R : DR} : Step (slM (.scr ns) lo hi R) (R (.lst ((cutA ns lo hi).map .int)) true) := ⟨fun q => v_slS q⟩
theorem v_slL {ns : List D} {lo hi : Option Int} {R : DR} (q : R (.lst (cutA ns lo hi)) (immL (cutA ns lo hi))) : slM (.lst ns) lo hi R := q
instance iv_slL {ns : List D} {lo hi : Option Int} {R : DR} : Step (slM (.lst ns) lo hi R) (R (.lst (cutA ns lo hi)) (immL (cutA ns lo hi))) := ⟨fun q => v_slL q⟩
theorem v_slT {ns : List D} {lo hi : Option Int} {R : DR} (q : R (.tup (cutA ns lo hi)) (immL (cutA ns lo hi))) : slM (.tup ns) lo hi R := q
instance iv_slT {ns : List D} {lo hi : Option Int} {R : DR} : Step (slM (.tup ns) lo hi R) (R (.tup (cutA ns lo hi)) (immL (cutA ns lo hi))) := ⟨fun q => v_slT q⟩
theorem cutA_len {α : Type} (xs : List α) (lo hi : Option Int) : (cutA xs lo hi).length ≤ xs.length := by
  unfold cutA; rw [List.length_take, List.length_drop]; omega
theorem cons_ints (i : Int) (l : List Int) : [D.int i] ++ l.map .int = (i :: l).map .int := rfl
/-! ### what the callers use -/
theorem v_turned {N : Net} {R : DR} {Ex : Value → Prop} (q : R (netD (turnN N)) true) : m_turned [netD N] R Ex := ⟨N, rfl, q⟩
instance iv_turned {N : Net} {R : DR} {Ex : Value → Prop} : Step (m_turned [netD N] R Ex) (R (netD (turnN N)) true) := ⟨fun q => v_turned q⟩
theorem v_ixN0 {N : Net} {R : DR} (q : R (.int N.n) true) : ixM (netD N) (.int 0) R := ⟨_, rfl, q⟩
instance iv_ixN0 {N : Net} {R : DR} : Step (ixM (netD N) (.int 0) R) (R (.int N.n) true) := ⟨fun q => v_ixN0 q⟩
theorem v_ixN1 {N : Net} {R : DR} (q : R (.tup (N.lanes.map prD)) true) : ixM (netD N) (.int 1) R := ⟨.tup (N.lanes.map prD), rfl, by rw [show (D.tup (N.lanes.map prD)).imm = true from by simp [D.imm, immL_prs]]; exact q⟩
instance iv_ixN1 {N : Net} {R : DR} : Step (ixM (netD N) (.int 1) R) (R (.tup (N.lanes.map prD)) true) := ⟨fun q => v_ixN1 q⟩
theorem use_well {a t : Int} {R : DR} {Ex : Value → Prop} (q : ∀ d, BagS t d → R d true) (h : 0 ≤ t) : m__law_well [.int a, .int t] R Ex := ⟨a, t, rfl, h, q⟩
theorem use_cell {ns : List Int} {k : Int} {R : DR} {Ex : Value → Prop} (q : ∀ i, R (.int i) true) (h : 0 ≤ k) : m__law_cell [.scr ns, .int k] R Ex := ⟨ns, k, rfl, h, q⟩
open PySem PySem.Spec PyProof.Rows L2
set_option linter.all false
set_option Elab.async false
set_option maxRecDepth 100000
set_option maxHeartbeats 4000000
/-! ### steps for comprehensions that change things -/
section
variable {X : EX} {ρ : Cells} {R : D → Bool → Cells → Prop} {i n : Nat} {τs : ETa} {α : PTg} {cond : ETt} {τe : ETr} {vs : List Nat} {G : DCE} {ns : ETn}
theorem v_eLcR (q : τs X ρ fun ds ρ1 => ∃ n : Int, ds = [.int n] ∧ -4611686018427387904 ≤ n ∧ n ≤ 16777216 ∧ lcE ((List.range n.toNat).map fun i => .int (i : Nat)) α cond τe vs ρ1 R) : eLcR τs α cond τe vs X ρ R := q
instance iv_eLcR : Step (eLcR τs α cond τe vs X ρ R) (τs X ρ fun ds ρ1 => ∃ n : Int, ds = [.int n] ∧ -4611686018427387904 ≤ n ∧ n ≤ 16777216 ∧ lcE ((List.range n.toNat).map fun i => .int (i : Nat)) α cond τe vs ρ1 R) := ⟨fun q => v_eLcR q⟩
theorem v_eLcN (q : ∃ c xs, ρ[i]? = some c ∧ c.data = some (.tup xs) ∧ (D.tup xs).imm = true ∧ xs.length ≤ sizeLine ∧ lcE xs α cond τe vs ρ R) : eLcN i α cond τe vs X ρ R := q
instance iv_eLcN : Step (eLcN i α cond τe vs X ρ R) (∃ c xs, ρ[i]? = some c ∧ c.data = some (.tup xs) ∧ (D.tup xs).imm = true ∧ xs.length ≤ sizeLine ∧ lcE xs α cond τe vs ρ R) := ⟨fun q => v_eLcN q⟩
theorem v_eCallN (q : ns X ρ fun as ρ1 => ∃ ds, argD as ρ1 = some ds ∧ ds.length = n ∧ (argN as).Nodup ∧ G ds (fun d fs => R d true (putF as fs ρ1)) (fun _ _ => False)) : eCallN G n ns X ρ R := q
instance iv_eCallN : Step (eCallN G n ns X ρ R) (ns X ρ fun as ρ1 => ∃ ds, argD as ρ1 = some ds ∧ ds.length = n ∧ (argN as).Nodup ∧ G ds (fun d fs => R d true (putF as fs ρ1)) (fun _ _ => False)) := ⟨fun q => v_eCallN q⟩
theorem v_etYes {R : Bool → Cells → Prop} (q : R true ρ) : etYes X ρ R := q
instance iv_etYes {R : Bool → Cells → Prop} : Step (etYes X ρ R) (R true ρ) := ⟨fun q => v_etYes q⟩
end
theorem v_intI {i : Int} {R : DR} (q : R (.int i) true) : intM [.int i] R := q
instance iv_intI {i : Int} {R : DR} : Step (intM [.int i] R) (R (.int i) true) := ⟨fun q => v_intI q⟩
theorem v_intB {b : Bool} {R : DR} (q : R (.int (if b then 1 else 0)) true) : intM [.bl b] R := q
instance iv_intB {b : Bool} {R : DR} : Step (intM [.bl b] R) (R (.int (if b then 1 else 0)) true) := ⟨fun q => v_intB q⟩
/-- walked with the items taken so far -/
theorem lcE_pre {β : Type} {l : List β} {f : β → D} {α : PTg} {cond : ETt} {τe : ETr} {vs : List Nat} {ρ1 : Cells} {R : D → Bool → Cells → Prop} (I : List β → List D → Cells → Prop) (h0 : I [] [] ρ1)
    (h1 : ∀ pre x post acc ρ2, l = pre ++ x :: post → I pre acc ρ2 → acc.length ≤ pre.length → α (f x) (wipeE ⟨ρ2.map Cell.data, fun _ => False⟩ vs) fun η => (∀ j ∈ vs, ∃ d, η.v[j]? = some (some d) ∧ d.imm = true) ∧
      cond (fun _ _ => False) (bindIds ρ2 vs η) fun b ρ3 => if b = true then τe (fun _ _ => False) ρ3 fun d o ρ4 => o = true ∧ I (pre ++ [x]) (acc ++ [d]) (noIds ρ4 vs) else I (pre ++ [x]) acc (noIds ρ3 vs))
    (h2 : ∀ acc ρ2, I l acc ρ2 → R (.lst acc) true ρ2) : lcE (l.map f) α cond τe vs ρ1 R := by
  refine ⟨fun i acc ρ => I (l.take i) acc ρ, by simpa using h0, fun i x acc ρ2 e h ha => ?_, fun acc ρ2 h => h2 acc ρ2 (by simpa using h)⟩
  rw [List.getElem?_map] at e
  cases e0 : l[i]? with
  | none => rw [e0] at e; cases e
  | some y =>
    rw [e0] at e; simp at e; subst e
    have hi := (List.getElem?_eq_some_iff.mp e0).1
    have e1 := (List.getElem?_eq_some_iff.mp e0).2
    have e2 : l.take (i + 1) = l.take i ++ [y] := by rw [List.take_add_one, e0]; rfl
    have := h1 (l.take i) y (l.drop (i + 1)) acc ρ2 (by rw [← e1, List.getElem_cons_drop, List.take_append_drop]) h (by rw [List.length_take]; omega)
    rw [← e2] at this
    exact this

open PySem PySem.Spec PyProof.Rows L2
set_option linter.all false
set_option Elab.async false
set_option maxRecDepth 100000
set_option maxHeartbeats 4000000
/-! ### what is a net: any things -/
theorem v_frz {τ : PTr} {η : En} {R : DR} (q : τ η fun d o => o = true ∧ ∃ ds, d = .lst ds ∧ immL ds = true ∧ R (.fl ds) true) : pFrz τ η R := q
instance iv_frz {τ : PTr} {η : En} {R : DR} : Step (pFrz τ η R) (τ η fun d o => o = true ∧ ∃ ds, d = .lst ds ∧ immL ds = true ∧ R (.fl ds) true) := ⟨fun q => v_frz q⟩
theorem v_efrz {τ : ETr} {X : EX} {ρ : Cells} {R : D → Bool → Cells → Prop} (q : τ X ρ fun d o ρ1 => o = true ∧ ∃ ds, d = .lst ds ∧ immL ds = true ∧ R (.fl ds) true ρ1) : eFrz τ X ρ R := q
instance iv_efrz {τ : ETr} {X : EX} {ρ : Cells} {R : D → Bool → Cells → Prop} : Step (eFrz τ X ρ R) (τ X ρ fun d o ρ1 => o = true ∧ ∃ ds, d = .lst ds ∧ immL ds = true ∧ R (.fl ds) true ρ1) := ⟨fun q => v_efrz q⟩
/-- what has no parts -/
def Th0 : D → Prop | .non => True | .bl _ => True | .int _ => True | .str _ => True | _ => False
/-- a thing, at most so many within one another -/
def Th : Nat → D → Prop
  | 0, d => Th0 d
  | n + 1, d => Th0 d ∨ ∃ xs, (d = .tup xs ∨ d = .fl xs) ∧ ∀ x ∈ xs, Th n x
theorem Th0.imm {d : D} (h : Th0 d) : d.imm = true := by cases d <;> first | rfl | exact h.elim
theorem Th0.plain {d : D} (h : Th0 d) : d.plain := by cases d <;> first | exact ⟨_, rfl⟩ | exact h.elim
theorem Th.imm : ∀ {n : Nat} {d : D}, Th n d → d.imm = true
  | 0, _, h => Th0.imm h
  | n + 1, _, .inl h => h.imm
  | n + 1, _, .inr ⟨xs, .inl e, h⟩ => by rw [e]; exact immL_iff.mpr fun d hd => (h d hd).imm
  | n + 1, _, .inr ⟨xs, .inr e, h⟩ => by rw [e]; exact immL_iff.mpr fun d hd => (h d hd).imm
theorem Th.plain : ∀ {n : Nat} {d : D}, Th n d → d.plain
  | 0, _, h => Th0.plain h
  | n + 1, _, .inl h => h.plain
  | n + 1, _, .inr ⟨xs, .inl e, h⟩ => by rw [e]; exact ⟨_, rfl⟩
  | n + 1, _, .inr ⟨xs, .inr e, h⟩ => by rw [e]; exact ⟨_, rfl⟩
theorem Th0.th : ∀ {n : Nat} {d : D}, Th0 d → Th n d
  | 0, _, h => h
  | n + 1, _, h => .inl h
theorem Th.up : ∀ {n : Nat} {d : D}, Th n d → Th (n + 1) d
  | 0, _, h => .inl h
  | n + 1, _, .inl h => .inl h
  | n + 1, _, .inr ⟨xs, e, h⟩ => .inr ⟨xs, e, fun x hx => (h x hx).up⟩
theorem Th.tup {n : Nat} {xs : List D} (h : Th (n + 1) (.tup xs)) : ∀ x ∈ xs, Th n x := by
  rcases h with h | ⟨ys, h | h, q⟩
  · exact h.elim
  · cases h; exact q
  · cases h
def lnB (n : Int) : D → Bool
  | .tup [a, b] => a.isPlace n && (b.isPlace n && !a.eqv b)
  | _ => false
def m_is_lane : DCX := fun ds R Ex => ∃ d n, ds = [d, .int n] ∧ Th 2 d ∧ R (.bl (lnB n d)) true
theorem len_is_lane {ds R Ex} (h : m_is_lane ds R Ex) : ds.length = 2 := by obtain ⟨d, n, rfl, _⟩ := h; rfl
theorem isPlace_shp {d : D} {n : Int} (h : d.isPlace n = true) : d.shp 9 = true := by cases d <;> first | rfl | cases h
/-- whether a thing is a pair of things -/
def prB : D → Bool | .tup [_, _] => true | _ => false
def isTup : D → Bool | .tup _ => true | _ => false
/-- a thing is a tuple, or none -/
theorem Th.cases {n : Nat} {d : D} (h : Th n d) : (∃ xs, d = .tup xs) ∨ (isTup d = false ∧ ∃ t, d.tyN = some t ∧ isT t "tuple" = false) := by
  cases n with
  | zero => exact .inr (by cases d <;> first | exact ⟨rfl, _, rfl, rfl⟩ | exact h.elim)
  | succ n =>
    rcases h with h | ⟨xs, rfl | rfl, _⟩
    · exact .inr (by cases d <;> first | exact ⟨rfl, _, rfl, rfl⟩ | exact h.elim)
    · exact .inl ⟨xs, rfl⟩
    · exact .inr ⟨rfl, _, rfl, rfl⟩
theorem two_of {xs : List D} (h : xs.length = 2) : ∃ a b, xs = [a, b] := match xs, h with | [a, b], _ => ⟨a, b, rfl⟩
theorem lnB_no {n : Int} {d : D} (h : isTup d = false) : lnB n d = false := by cases d <;> first | rfl | cases h
theorem lnB_len {n : Int} {xs : List D} (h : xs.length ≠ 2) : lnB n (.tup xs) = false := by
  match xs, h with
  | [], _ => rfl
  | [_], _ => rfl
  | [_, _], h => exact absurd rfl h
  | _ :: _ :: _ :: _, _ => rfl
local macro_rules | `(tactic| iterate 7773 skip) => `(tactic| try simp only [putF, newC, List.set_cons_succ, List.set_cons_zero, List.getElem?_cons_zero, List.getElem?_cons_succ, true_and])
local macro_rules | `(tactic| iterate 7770 skip) => `(tactic| simp only [entC, List.zipWith, List.length_cons, List.length_nil, List.replicate, Nat.reduceSub, Nat.reduceAdd, List.cons_append, List.nil_append, List.append_nil, entR_int, entR_bl, entR_str, entR_non, entR_lst, entR_dK, entR_dT, entR_scr, entP_int, entP_lst, entR_pr, entR_net, entP_bag, entR_cl])
local macro_rules | `(tactic| iterate 7771 skip) => `(tactic| repeat' (first | with_reducible refine stp ?_ | ((with_reducible refine gv_pN ?_); refine v_pN ?_) | ((with_reducible refine gv_pN2 ?_); refine v_pN2 ?_) | with_reducible refine v_shuf ?_ | with_reducible refine v_take ?_ | iterate 7769 fail))
local macro_rules | `(tactic| iterate 7772 skip) => `(tactic| repeat' (first | with_reducible refine stp ?_ | ((with_reducible refine gv_pN ?_); refine v_pN ?_) | ((with_reducible refine gv_pN2 ?_); refine v_pN2 ?_) | with_reducible refine v_shuf ?_ | with_reducible refine v_take ?_ | iterate 7769 fail | with_reducible refine v_ite (fun _ => ?_) (fun _ => ?_)))
/- slots: 0 thing 1 many -/
def t_is_lane : ESt := (sSeq (sIf (etPure (tOrD (tNotD (tVal (pIsi "tuple" (pName 0)))) (tVal (pBin neM (pCall lenM (aCons (pName 0) aNil)) (pC (.int 2)))))) (sRet (ePure (pC (.bl false)))) sNext)
  (sRet (ePure (pAnd (pCallX m_is_place (aCons (pBin ixM (pName 0) (pC (.int 0))) (aCons (pName 1) aNil))) (pAnd (pCallX m_is_place (aCons (pBin ixM (pName 0) (pC (.int 1))) (aCons (pName 1) aNil))) (pBin neM (pBin ixM (pName 0) (pC (.int 0))) (pBin ixM (pName 0) (pC (.int 1)))))))))

theorem w_is_lane {ds : List D} {R : DR} {Ex : Value → Prop} {vs : List V} (hm : m_is_lane ds R Ex) (hl : vs.length = ds.length) : t_is_lane (fun cls _ => Ex cls) { nx := fun _ => R .non true, rt := fun d o _ => R d o } (entC 2 entR ds vs) := by
  obtain ⟨d, n, rfl, hT, hr⟩ := hm
  obtain ⟨v1, v2, rfl⟩ := vs2 hl
  have hi := hT.imm
  iterate 7770 skip
  unfold t_is_lane
  rcases hT.cases with ⟨xs, rfl⟩ | ⟨h1, t, h2, h3⟩
  · iterate 7772 skip
    · rename_i h
      rw [lnB_len (by simp at h; omega)] at hr
      exact hr
    · rename_i h
      obtain ⟨a, b, rfl⟩ := two_of (xs := xs) (by simp at h; omega)
      have ha := hT.tup a (by simp)
      have hb := hT.tup b (by simp)
      iterate 7772 skip
      refine ⟨a, n, rfl, ha.plain, ?_⟩
      iterate 7772 skip
      · rename_i h1
        refine ⟨b, n, rfl, hb.plain, ?_⟩
        iterate 7772 skip
        · rename_i h2
          refine ⟨isPlace_shp h1, isPlace_shp h2, ?_⟩
          simpa [lnB, h1, h2] using hr
        · rename_i h2
          simpa [lnB, h1, h2] using hr
      · rename_i h1
        simpa [lnB, h1] using hr
  · iterate 7772 skip
    refine ⟨t, h2, ?_⟩
    rw [h3]
    iterate 7772 skip
    rw [lnB_no h1] at hr
    exact hr
def pl2 : Option D → Option D → Bool
  | some (.tup [.int a, .int b]), some (.tup [.int c, .int d]) => pltB (a, b) (c, d)
  | _, _ => false
/-- whether a thing is a net -/
def ntB : D → Bool
  | .tup [.int n, .tup ls] => decide (1 ≤ n) && decide (n ≤ 24) && decide (ls.length ≤ 120) && ls.all (lnB n) && (List.range (ls.length - 1)).all fun i => pl2 ls[i]? ls[i + 1]?
  | _ => false
theorem lnB_pr {n : Int} {d : D} (h : lnB n d = true) : ∃ p, d = prD p ∧ laneOk n p = true := by
  unfold lnB at h
  split at h
  · rename_i a b
    simp only [Bool.and_eq_true] at h
    obtain ⟨h1, h2, h3⟩ := h
    cases a <;> simp [D.isPlace] at h1
    cases b <;> simp [D.isPlace] at h2
    rename_i a b
    exact ⟨(a, b), rfl, by simp [laneOk, h1, h2]; intro z; subst z; simp [D.eqv] at h3⟩
  · cases h
theorem all_prs {n : Int} : ∀ {ls : List D}, ls.all (lnB n) = true → ∃ l : List (Int × Int), ls = l.map prD ∧ ∀ p ∈ l, laneOk n p = true
  | [], _ => ⟨[], rfl, fun _ h => nomatch h⟩
  | d :: ls, h => by
    simp only [List.all_cons, Bool.and_eq_true] at h
    obtain ⟨p, rfl, hp⟩ := lnB_pr h.1
    obtain ⟨l, rfl, hl⟩ := all_prs h.2
    exact ⟨p :: l, rfl, fun q hq => by rcases List.mem_cons.mp hq with rfl | hq; exact hp; exact hl q hq⟩
theorem ntB_no {d : D} (h : isTup d = false) : ntB d = false := by cases d <;> first | rfl | cases h
theorem ntB_len {xs : List D} (h : xs.length ≠ 2) : ntB (.tup xs) = false := by
  match xs, h with
  | [], _ => rfl
  | [_], _ => unfold ntB; split <;> first | rfl | simp_all
  | [_, _], h => exact absurd rfl h
  | _ :: _ :: _ :: _, _ => unfold ntB; split <;> first | rfl | simp_all
theorem ntB_int {a b : D} (h : a.isInt = false) : ntB (.tup [a, b]) = false := by cases a <;> first | rfl | cases h
theorem ntB_tup {a b : D} (h : isTup b = false) : ntB (.tup [a, b]) = false := by cases a <;> cases b <;> first | rfl | cases h
def m_is_net : DCX := fun ds R Ex => ∃ d, ds = [d] ∧ Th 4 d ∧ R (.bl (ntB d)) true
theorem len_is_net {ds R Ex} (h : m_is_net ds R Ex) : ds.length = 1 := by obtain ⟨d, rfl, _⟩ := h; rfl
theorem pr_at {l : List (Int × Int)} {i : Nat} (h : i < l.length) : (l.map prD)[i]? = some (prD (l.getD i (0, 0))) := by rw [List.getElem?_map, getD_at (d := (0, 0)) h]; rfl
theorem lnB_prD {n : Int} {p : Int × Int} : lnB n (prD p) = laneOk n p := by
  obtain ⟨a, b⟩ := p
  simp [lnB, prD, laneOk, D.isPlace, D.eqv]
theorem ntB_prs {n : Int} {l : List (Int × Int)} : ntB (.tup [.int n, .tup (l.map prD)]) = isNetB ⟨n, l⟩ := by
  have e1 : (l.map prD).all (lnB n) = l.all (laneOk n) := by rw [List.all_map]; exact congrArg _ (funext fun p => lnB_prD)
  have e2 : ((List.range ((l.map prD).length - 1)).all fun i => pl2 (l.map prD)[i]? (l.map prD)[i + 1]?) = (List.range (l.length - 1)).all fun i => pltB (l.getD i (0, 0)) (l.getD (i + 1) (0, 0)) := by
    rw [List.length_map]
    refine Bool.eq_iff_iff.mpr ?_
    simp only [List.all_eq_true]
    refine forall_congr' fun i => forall_congr' fun hi => ?_
    have := List.mem_range.mp hi
    rw [pr_at (show i < l.length by omega), pr_at (show i + 1 < l.length by omega)]
    rfl
  unfold ntB isNetB
  simp only [e1, e2, List.length_map]
  rw [List.length_map] at e2
  rw [e2]
/- slots: 0 thing 1 many 2 lanes 3 lane 4 k -/
def t_is_net : ESt := (sSeq (sIf (etPure (tOrD (tNotD (tVal (pIsi "tuple" (pName 0)))) (tOrD (tVal (pBin neM (pCall lenM (aCons (pName 0) aNil)) (pC (.int 2)))) (tOrD (tNotD (tVal (pCallX m_is_whole (aCons (pBin ixM (pName 0) (pC (.int 0))) aNil)))) (tNotD (tVal (pIsi "tuple" (pBin ixM (pName 0) (pC (.int 1)))))))))) (sRet (ePure (pC (.bl false)))) sNext)
  (sSeq (sAsg (kName 0) (gnTup 2 (gnCons (gnName 1) (gnCons (gnName 2) gnNil))))
  (sSeq (sIf (etPure (tOrD (tVal (pBin ltM (pName 1) (pC (.int 1)))) (tOrD (tVal (pBin gtM (pName 1) (pC (.int 24)))) (tVal (pBin gtM (pCall lenM (aCons (pName 2) aNil)) (pC (.int 120))))))) (sRet (ePure (pC (.bl false)))) sNext)
  (sSeq (sIf (etPure (tNotD (tVal (pCall allM (aCons (pLc (iSeq (pName 2)) (bName 3) tYesD (pCallU m_is_lane (aCons (pName 3) (aCons (pName 1) aNil))) [3]) aNil))))) (sRet (ePure (pC (.bl false)))) sNext)
  (sRet (ePure (pCall allM (aCons (pLc (iRange1 (aCons (pBin subM (pCall lenM (aCons (pName 2) aNil)) (pC (.int 1))) aNil)) (bName 4) tYesD (pBin ltM (pBin ixM (pName 2) (pName 4)) (pBin ixM (pName 2) (pBin addM (pName 4) (pC (.int 1))))) [4]) aNil))))))))

theorem w_is_net {ds : List D} {R : DR} {Ex : Value → Prop} {vs : List V} (hm : m_is_net ds R Ex) (hl : vs.length = ds.length) : t_is_net (fun cls _ => Ex cls) { nx := fun _ => R .non true, rt := fun d o _ => R d o } (entC 5 entR ds vs) := by
  obtain ⟨d, rfl, hT, hr⟩ := hm
  obtain ⟨v, rfl⟩ := vs1 hl
  have hi := hT.imm
  iterate 7770 skip
  rw [entR_imm hi]
  unfold t_is_net
  rcases hT.cases with ⟨xs, rfl⟩ | ⟨h1, t, h2, h3⟩
  · iterate 7772 skip
    · rename_i h
      rw [ntB_len (by simp at h; omega)] at hr
      exact hr
    rename_i h
    obtain ⟨a, b, rfl⟩ := two_of (xs := xs) (by simp at h; omega)
    have ha := hT.tup a (by simp)
    have hb := hT.tup b (by simp)
    have hia := ha.imm
    have hib := hb.imm
    iterate 7772 skip
    refine ⟨a, rfl, ha.plain, ?_⟩
    iterate 7772 skip
    · rename_i h1
      rw [ntB_int (by simpa using h1)] at hr
      exact hr
    rename_i h1
    obtain ⟨n, rfl⟩ : ∃ n, a = .int n := by cases a <;> simp [D.isInt] at h1; exact ⟨_, rfl⟩
    rcases hb.cases with ⟨ls, rfl⟩ | ⟨h1, t, h2, h3⟩
    · have hls := hb.tup
      iterate 7772 skip
      · rename_i h2
        have : ntB (.tup [.int n, .tup ls]) = false := by unfold ntB; simp at h2; simp <;> omega
        rw [this] at hr; exact hr
      · rename_i h2
        have : ntB (.tup [.int n, .tup ls]) = false := by unfold ntB; simp at h2; simp <;> omega
        rw [this] at hr; exact hr
      · rename_i h2
        have : ntB (.tup [.int n, .tup ls]) = false := by unfold ntB; simp at h2; simp <;> omega
        rw [this] at hr; exact hr
      rename_i h2 h3 h4
      refine lc_map0 (fun d => .bl (lnB n d)) (fun d hd ys i hy => ?_) ?_
      · iterate 7772 skip
        refine ⟨d, n, rfl, hls d hd, ?_⟩
        iterate 7772 skip
        exact hy
      iterate 7772 skip
      · rename_i h5
        have e : ls.all (lnB n) = false := by simpa using h5
        have : ntB (.tup [.int n, .tup ls]) = false := by unfold ntB; simp only [e]; simp
        rw [this] at hr; exact hr
      rename_i h5
      have e : ls.all (lnB n) = true := by simpa using h5
      obtain ⟨l, rfl, hl2⟩ := all_prs e
      rw [ntB_prs] at hr
      have e : (((l.map prD).length : Int) - 1).toNat = l.length - 1 := by rw [List.length_map]; omega
      have hz : l.length ≤ 120 := by simp at h4; omega
      refine ⟨by rw [List.length_map]; omega, by rw [List.length_map]; omega, ?_⟩
      rw [e]
      iterate 7772 skip
      refine lc_map (fun i => .bl (pltB (l.getD i (0, 0)) (l.getD (i + 1) (0, 0)))) (fun k hk ys i hy => ?_) ?_
      · iterate 7772 skip
        have h1 : k + 1 < l.length := by have := List.mem_range.mp hk; omega
        refine ⟨_, atI_nat (by rw [List.getElem?_map, getD_at (d := (0, 0)) (show k < l.length by omega)]; rfl), ?_⟩
        iterate 7772 skip
        refine ⟨_, atI_int (k := (k : Int) + 1) (by omega) (by rw [show ((k : Int) + 1).toNat = k + 1 by omega, List.getElem?_map, getD_at (d := (0, 0)) h1]; rfl), ?_⟩
        iterate 7772 skip
        exact hy
      · iterate 7772 skip
        have : isNetB ⟨n, l⟩ = ((List.range (l.length - 1)).all fun i => pltB (l.getD i (0, 0)) (l.getD (i + 1) (0, 0))) := by
          unfold isNetB
          simp at h2 h3 h4
          have e1 : decide (1 ≤ n) = true := by simp; omega
          have e2 : decide (n ≤ 24) = true := by simp; omega
          have e3 : decide (l.length ≤ 120) = true := by simp; omega
          have e4 : l.all (laneOk n) = true := List.all_eq_true.mpr hl2
          simp only [e1, e2, e3, e4, Bool.true_and]
        rw [this] at hr; exact hr
    · refine ⟨t, h2, ?_⟩
      rw [h3]
      iterate 7772 skip
      rw [ntB_tup h1] at hr
      exact hr
  · iterate 7772 skip
    refine ⟨t, h2, ?_⟩
    rw [h3]
    iterate 7772 skip
    rw [ntB_no h1] at hr
    exact hr
/-! ### any things -/
def atomL : List D := [.int 0, .int 1, .int (-1), .int 24, .int 25, .bl true, .non, .str (PySem.Str.ofString ""), .str (PySem.Str.ofString "0"), .int (10 ^ Int.toNat 59)]
def AnyT : Nat → D → Prop
  | 0, d => d ∈ atomL
  | n + 1, d => d ∈ atomL ∨ ∃ xs, (d = .tup xs ∨ d = .fl xs) ∧ xs.length ≤ 3 ∧ ∀ x ∈ xs, AnyT n x
theorem atom_th {d : D} (h : d ∈ atomL) : Th0 d := by
  unfold atomL at h
  simp only [List.mem_cons, List.not_mem_nil, or_false] at h
  rcases h with rfl | rfl | rfl | rfl | rfl | rfl | rfl | rfl | rfl | rfl <;> trivial
theorem AnyT.th : ∀ {n : Nat} {d : D}, AnyT n d → Th n d
  | 0, _, h => atom_th h
  | n + 1, _, .inl h => .inl (atom_th h)
  | n + 1, _, .inr ⟨xs, e, _, h⟩ => .inr ⟨xs, e, fun x hx => (h x hx).th⟩
theorem AnyT.atom {d : D} (h : d ∈ atomL) : ∀ {n : Nat}, AnyT n d
  | 0 => h
  | n + 1 => .inl h
/-- how many numbers are drawn at most -/
def anyC : Nat → Int
  | 0 => 1
  | n + 1 => 2 + 3 * anyC n
theorem anyC_pos : ∀ n, 1 ≤ anyC n
  | 0 => Int.le_refl _
  | n + 1 => by have := anyC_pos n; unfold anyC; omega
theorem atI_some {l : List D} {j : Int} (h0 : 0 ≤ j) (h1 : j < l.length) : ∃ d, d ∈ l ∧ atI l j = some d :=
  ⟨l[j.toNat]'(by omega), List.getElem_mem _, atI_int h0 (List.getElem?_eq_getElem (by omega))⟩
def m__law_any : Nat → DCE
  | 0 => fun _ _ _ => False
  | n + 1 => fun ds R Ex => ∃ (d : D) (C : Int) (k : Nat), ds = [d, .int k] ∧ k < n + 1 ∧ BagS C d ∧ C + anyC k < 4611686018427387904 ∧ ∀ d' r, BagS (C + anyC k) d' → AnyT k r → R r [some d', none]
local macro_rules | `(tactic| iterate 7773 skip) => `(tactic| try simp only [putF, newC, List.set_cons_succ, List.set_cons_zero, List.getElem?_cons_zero, List.getElem?_cons_succ, true_and])
local macro_rules | `(tactic| iterate 7770 skip) => `(tactic| simp only [entC, List.zipWith, List.length_cons, List.length_nil, List.replicate, Nat.reduceSub, Nat.reduceAdd, List.cons_append, List.nil_append, List.append_nil, entR_int, entR_bl, entR_str, entR_non, entR_lst, entR_dK, entR_dT, entR_scr, entP_int, entP_lst, entR_pr, entR_net, entP_bag, entR_cl])
local macro_rules | `(tactic| iterate 7771 skip) => `(tactic| repeat' (first | with_reducible refine stp ?_ | ((with_reducible refine gv_pN ?_); refine v_pN ?_) | ((with_reducible refine gv_pN2 ?_); refine v_pN2 ?_) | with_reducible refine v_shuf ?_ | with_reducible refine v_take ?_ | iterate 7769 fail))
local macro_rules | `(tactic| iterate 7772 skip) => `(tactic| repeat' (first | with_reducible refine stp ?_ | ((with_reducible refine gv_pN ?_); refine v_pN ?_) | ((with_reducible refine gv_pN2 ?_); refine v_pN2 ?_) | with_reducible refine v_shuf ?_ | with_reducible refine v_take ?_ | iterate 7769 fail | with_reducible refine v_ite (fun _ => ?_) (fun _ => ?_)))
/- slots: 0 bag 1 deep 2 some 3 way 4 parts 5 k -/
def t__law_any (n : Nat) : ESt := (sSeq (sSet 2 (ePure (pLst (aCons (pC (.int 0)) (aCons (pC (.int 1)) (aCons (pNeg (pC (.int 1))) (aCons (pC (.int 24)) (aCons (pC (.int 25)) (aCons (pC (.bl true)) (aCons (pC .non) (aCons (pC (.str (PySem.Str.ofString ""))) (aCons (pC (.str (PySem.Str.ofString "0"))) (aCons (pBin powM (pC (.int 10)) (pC (.int 59))) aNil)))))))))))))
  (sSeq (sSet 3 (eCall m__law_take 2 (enName 0 (enVal (ePure (pC (.int 14))) enNil))))
  (sSeq (sIf (etPure (tOrD (tVal (pBin ltM (pName 3) (pC (.int 10)))) (tVal (pBin eqM (pName 1) (pC (.int 0)))))) (sRet (ePure (pBin ixM (pName 2) (pBin modM (pName 3) (pC (.int 10)))))) sNext)
  (sSeq (sSet 4 (eLcR (eaCons (eCall m__law_take 2 (enName 0 (enVal (ePure (pC (.int 4))) enNil))) eaNil) (bName 5) etYes (eCallN (m__law_any n) 2 (enName 0 (enVal (ePure (pBin subM (pName 1) (pC (.int 1)))) enNil))) [5]))
  (sRet (eIf (etPure (tVal (pBin ltM (pName 3) (pC (.int 12))))) (eFrz (eTake 4)) (ePure (pCall tupleM (aCons (pName 4) aNil)))))))))

theorem w__law_any {n : Nat} {ds : List D} {R : D → List (Option D) → Prop} {Ex : Value → List (Option D) → Prop} {vs : List V} (hm : m__law_any (n + 1) ds R Ex) (hl : vs.length = 2) (hd : ds.length = 2) : t__law_any n (fun cls ρ' => ∃ fs, Ex cls fs ∧ fs.length = 2 ∧ finOk fs vs ρ')
      { nx := fun ρ' => ∃ fs, R .non fs ∧ fs.length = 2 ∧ finOk fs vs ρ', rt := fun d o ρ' => o = true ∧ ∃ fs, R d fs ∧ fs.length = 2 ∧ finOk fs vs ρ' } (entC 6 entP ds vs) := by
  obtain ⟨d, C, k, rfl, hk, hbag, hC, hr⟩ := hm
  obtain ⟨v1, v2, rfl⟩ := vs2 hl
  have hc := anyC_pos k
  have hd0 : ∀ {C d}, BagS C d → entP d v1 = .pin d v1 := by rintro C d ⟨a, b, c, rfl, _⟩; rfl
  iterate 7770 skip
  rw [hd0 hbag]
  unfold t__law_any
  iterate 7772 skip
  refine v_take (fun d1 way b1 hw0 hw1 => ?_) hbag (by omega) (by omega) (by omega)
  iterate 7772 skip
  · obtain ⟨e, he, e1⟩ := atI_some (l := atomL) (j := way % 10) (by omega) (by simp [atomL]; omega)
    refine ⟨e, e1, (atom_th he).imm, ?_⟩
    iterate 7772 skip
    exact ⟨[some d1, none], hr _ _ (b1.mono (by omega)) (AnyT.atom he), rfl, rfl, trivial⟩
  · obtain ⟨e, he, e1⟩ := atI_some (l := atomL) (j := way % 10) (by omega) (by simp [atomL]; omega)
    refine ⟨e, e1, (atom_th he).imm, ?_⟩
    iterate 7772 skip
    exact ⟨[some d1, none], hr _ _ (b1.mono (by omega)) (AnyT.atom he), rfl, rfl, trivial⟩
  rename_i h1 h2
  obtain ⟨k, rfl⟩ : ∃ j, k = j + 1 := ⟨k - 1, by simp at h2; omega⟩
  obtain ⟨n, rfl⟩ : ∃ j, n = j + 1 := ⟨n - 1, by omega⟩
  have hc2 := anyC_pos k
  have hck : anyC (k + 1) = 2 + 3 * anyC k := rfl
  refine v_take (fun d2 m b2 hm0 hm1 => ?_) b1 (by omega) (by omega) (by omega)
  iterate 7772 skip
  refine ⟨by omega, by omega, ?_⟩
  iterate 7773 skip
  refine lcE_pre (fun pre acc ρ => ∃ d, BagS (C + 2 + anyC k * pre.length) d ∧ acc.length ≤ pre.length ∧ (∀ x ∈ acc, AnyT k x) ∧ ρ = [Cell.pin d v1, .own (.int ((k + 1 : Nat) : Int)), .own (.lst atomL), .own (.int way), .no, .no])
    ⟨d2, b2.mono (by simp; omega), by simp, (fun _ h => nomatch h), rfl⟩ (fun pre x post acc ρ2 he hI ha => ?_) (fun acc ρ2 hI => ?_)
  · obtain ⟨d3, b3, ha1, ha2, rfl⟩ := hI
    have hpl : pre.length + 1 ≤ m.toNat := by have := congrArg List.length he; simp at this; omega
    have e1 : anyC k * ((pre ++ [x]).length : Int) = anyC k * pre.length + anyC k := by simp [Int.mul_add]
    have e2 : anyC k * (pre.length : Int) ≤ anyC k * 2 := Int.mul_le_mul_of_nonneg_left (by omega) (by omega)
    iterate 7772 skip
    refine ⟨fun j hj => by rw [List.mem_singleton.mp hj]; exact ⟨_, rfl, rfl⟩, ?_⟩
    iterate 7772 skip
    refine ⟨_, rfl, rfl, by simp [argN], d3, C + 2 + anyC k * pre.length, k, by rw [show ((k + 1 : Nat) : Int) - 1 = (k : Int) from by omega], by omega, b3, by omega, fun d4 r b4 hr4 => ?_⟩
    iterate 7773 skip
    iterate 7772 skip
    refine ⟨d4, b4.mono (by rw [e1]; omega), by simp; omega, fun y hy => ?_, rfl⟩
    rcases List.mem_append.mp hy with hy | hy
    · exact ha2 y hy
    · rw [List.mem_singleton.mp hy]; exact hr4
  · obtain ⟨d3, b3, ha1, ha2, rfl⟩ := hI
    have hm3 : (List.range m.toNat).length ≤ 3 := by simp; omega
    have e2 : anyC k * ((List.range m.toNat).length : Int) ≤ anyC k * 3 := Int.mul_le_mul_of_nonneg_left (by omega) (by omega)
    have hia : immL acc = true := immL_iff.mpr fun x hx => (ha2 x hx).th.imm
    have b4 := b3.mono (C' := C + anyC (k + 1)) (by rw [hck]; omega)
    iterate 7772 skip
    · refine ⟨_, rfl, hia, ?_⟩
      iterate 7772 skip
      exact ⟨[some d3, none], hr _ _ b4 (.inr ⟨acc, .inr rfl, by omega, ha2⟩), rfl, rfl, trivial⟩
    · exact ⟨[some d3, none], hr _ _ b4 (.inr ⟨acc, .inl rfl, by omega, ha2⟩), rfl, rfl, trivial⟩
def m__law_whole : DCX := fun ds R Ex => ∃ d, ds = [d] ∧ d.plain ∧ R (.bl d.isInt) true
theorem len__law_whole {ds R Ex} (h : m__law_whole ds R Ex) : ds.length = 1 := by obtain ⟨d, rfl, _⟩ := h; rfl
/- slots: 0 thing -/
def t__law_whole : ESt := (sRet (ePure (pAnd (pIsi "int" (pName 0)) (pNot (pIsi "bool" (pName 0))))))

theorem w__law_whole {ds : List D} {R : DR} {Ex : Value → Prop} {vs : List V} (hm : m__law_whole ds R Ex) (hl : vs.length = ds.length) : t__law_whole (fun cls _ => Ex cls) { nx := fun _ => R .non true, rt := fun d o _ => R d o } (entC 1 entR ds vs) := by
  obtain ⟨d, rfl, ⟨t, ht⟩, hr⟩ := hm
  obtain ⟨v, rfl⟩ := vs1 hl
  iterate 7770 skip
  unfold t__law_whole
  iterate 7771 skip
  refine ⟨t, ht, ?_⟩
  iterate 7772 skip
  · refine ⟨t, ht, ?_⟩
    iterate 7771 skip
    cases d <;> simp [D.tyN] at ht <;> subst ht <;> simp_all [isT, D.isInt]
  · cases d <;> simp [D.tyN] at ht <;> subst ht <;> simp_all [isT, D.isInt]
/-- whether a thing is still to be bent -/
def bndB : D → Bool
  | .tup [.int n, .tup ls] => decide (1 ≤ n) && ls.all prB
  | _ => false
theorem bndB_no {d : D} (h : isTup d = false) : bndB d = false := by cases d <;> first | rfl | cases h
theorem bndB_len {xs : List D} (h : xs.length ≠ 2) : bndB (.tup xs) = false := by
  match xs, h with
  | [], _ => rfl
  | [_], _ => unfold bndB; split <;> first | rfl | simp_all
  | [_, _], h => exact absurd rfl h
  | _ :: _ :: _ :: _, _ => unfold bndB; split <;> first | rfl | simp_all
theorem bndB_int {a b : D} (h : a.isInt = false) : bndB (.tup [a, b]) = false := by cases a <;> first | rfl | cases h
theorem bndB_tup {a b : D} (h : isTup b = false) : bndB (.tup [a, b]) = false := by cases a <;> cases b <;> first | rfl | cases h
theorem prB_len {xs : List D} : prB (.tup xs) = decide (xs.length = 2) := by
  match xs with
  | [] => rfl
  | [_] => rfl
  | [_, _] => rfl
  | _ :: _ :: _ :: _ => simp [prB]
def m__law_is_bendable : DCX := fun ds R Ex => ∃ d, ds = [d] ∧ Th 4 d ∧ R (.bl (bndB d)) true
theorem len__law_is_bendable {ds R Ex} (h : m__law_is_bendable ds R Ex) : ds.length = 1 := by obtain ⟨d, rfl, _⟩ := h; rfl
/- slots: 0 thing 1 lane -/
def t__law_is_bendable : ESt := (sSeq (sIf (etPure (tOrD (tNotD (tVal (pIsi "tuple" (pName 0)))) (tOrD (tVal (pBin neM (pCall lenM (aCons (pName 0) aNil)) (pC (.int 2)))) (tOrD (tNotD (tVal (pCallX m__law_whole (aCons (pBin ixM (pName 0) (pC (.int 0))) aNil)))) (tVal (pBin ltM (pBin ixM (pName 0) (pC (.int 0))) (pC (.int 1)))))))) (sRet (ePure (pC (.bl false)))) sNext)
  (sSeq (sIf (etPure (tNotD (tVal (pIsi "tuple" (pBin ixM (pName 0) (pC (.int 1))))))) (sRet (ePure (pC (.bl false)))) sNext)
  (sRet (ePure (pCall allM (aCons (pLc (iSeq (pBin ixM (pName 0) (pC (.int 1)))) (bName 1) tYesD (pAnd (pIsi "tuple" (pName 1)) (pBin eqM (pCall lenM (aCons (pName 1) aNil)) (pC (.int 2)))) [1]) aNil))))))

theorem w__law_is_bendable {ds : List D} {R : DR} {Ex : Value → Prop} {vs : List V} (hm : m__law_is_bendable ds R Ex) (hl : vs.length = ds.length) : t__law_is_bendable (fun cls _ => Ex cls) { nx := fun _ => R .non true, rt := fun d o _ => R d o } (entC 2 entR ds vs) := by
  obtain ⟨d, rfl, hT, hr⟩ := hm
  obtain ⟨v, rfl⟩ := vs1 hl
  have hi := hT.imm
  iterate 7770 skip
  rw [entR_imm hi]
  unfold t__law_is_bendable
  rcases hT.cases with ⟨xs, rfl⟩ | ⟨h1, t, h2, h3⟩
  · iterate 7772 skip
    · rename_i h
      rw [bndB_len (by simp at h; omega)] at hr
      exact hr
    rename_i h
    obtain ⟨a, b, rfl⟩ := two_of (xs := xs) (by simp at h; omega)
    have ha := hT.tup a (by simp)
    have hb := hT.tup b (by simp)
    have hia := ha.imm
    have hib := hb.imm
    iterate 7772 skip
    refine ⟨a, rfl, ha.plain, ?_⟩
    iterate 7772 skip
    · rename_i h1
      rw [bndB_int (by simpa using h1)] at hr
      exact hr
    rename_i h1
    obtain ⟨n, rfl⟩ : ∃ n, a = .int n := by cases a <;> simp [D.isInt] at h1; exact ⟨_, rfl⟩
    iterate 7772 skip
    · rename_i h2
      have : bndB (.tup [.int n, b]) = false := by unfold bndB; split <;> first | rfl | (simp at h2; simp_all; omega)
      rw [this] at hr; exact hr
    rename_i h2
    rcases hb.cases with ⟨ls, rfl⟩ | ⟨h1, t, h2, h3⟩
    · have hls := hb.tup
      iterate 7772 skip
      refine lc_map0 (fun d => .bl (prB d)) (fun d hd ys i hy => ?_) ?_
      · rcases (hls d hd).cases with ⟨us, rfl⟩ | ⟨h4, t, h5, h6⟩
        · rw [prB_len] at hy
          have hiu := (hls _ hd).imm
          iterate 7772 skip
          rw [show ((us.length : Int) == 2) = decide (us.length = 2) from by rw [Bool.eq_iff_iff]; simp; omega]
          exact hy
        · have : prB d = false := by cases d <;> first | rfl | cases h4
          rw [this] at hy
          have hiu := (hls _ hd).imm
          iterate 7772 skip
          refine ⟨t, h5, ?_⟩
          rw [h6]
          iterate 7772 skip
          exact hy
      iterate 7772 skip
      have : bndB (.tup [.int n, .tup ls]) = ls.all prB := by
        have h2 : 1 ≤ n := by simp at h2; omega
        simp [bndB, h2]
      rw [this] at hr; exact hr
    · iterate 7772 skip
      refine ⟨t, h2, ?_⟩
      rw [h3]
      iterate 7772 skip
      rw [bndB_tup h1] at hr
      exact hr
  · iterate 7772 skip
    refine ⟨t, h2, ?_⟩
    rw [h3]
    iterate 7772 skip
    rw [bndB_no h1] at hr
    exact hr
theorem ntB_true {n : Int} {ls : List D} (h : ntB (.tup [.int n, .tup ls]) = true) : ∃ l, ls = l.map prD ∧ isNetB ⟨n, l⟩ = true := by
  have h2 := h
  unfold ntB at h2
  simp only [Bool.and_eq_true] at h2
  obtain ⟨l, rfl, _⟩ := all_prs h2.1.2
  exact ⟨l, rfl, by rw [← ntB_prs]; exact h⟩
theorem split_prs {l : List (Int × Int)} {pre post : List D} {x : D} (h : pre ++ x :: post = l.map prD) : ∃ l1 p l2, l = l1 ++ p :: l2 ∧ pre = l1.map prD ∧ x = prD p := by
  obtain ⟨l1, l3, rfl, rfl, e2⟩ := List.map_eq_append_iff.mp h.symm
  obtain ⟨p, l2, rfl, e3, e4⟩ := List.map_eq_cons_iff.mp e2
  exact ⟨l1, p, l2, rfl, rfl, e3.symm⟩
def m__law_is_net : DCX := fun ds R Ex => ∃ d, ds = [d] ∧ Th 4 d ∧ R (.bl (ntB d)) true
theorem len__law_is_net {ds R Ex} (h : m__law_is_net ds R Ex) : ds.length = 1 := by obtain ⟨d, rfl, _⟩ := h; rfl
/- slots: 0 thing 1 many 2 lanes 3 ahead 4 lane -/
def t__law_is_net : ESt := (sSeq (sIf (etPure (tOrD (tNotD (tVal (pIsi "tuple" (pName 0)))) (tOrD (tVal (pBin neM (pCall lenM (aCons (pName 0) aNil)) (pC (.int 2)))) (tNotD (tVal (pCallX m__law_whole (aCons (pBin ixM (pName 0) (pC (.int 0))) aNil))))))) (sRet (ePure (pC (.bl false)))) sNext)
  (sSeq (sAsg (kName 0) (gnTup 2 (gnCons (gnName 1) (gnCons (gnName 2) gnNil))))
  (sSeq (sIf (etPure (tOrD (tNotD (tVal (pChain leM leM (pC (.int 1)) (pName 1) (pC (.int 24))))) (tOrD (tNotD (tVal (pIsi "tuple" (pName 2)))) (tVal (pBin gtM (pCall lenM (aCons (pName 2) aNil)) (pC (.int 120))))))) (sRet (ePure (pC (.bl false)))) sNext)
  (sSeq (sSet 3 (ePure (pTup (aCons (pNeg (pC (.int 1))) (aCons (pNeg (pC (.int 1))) aNil)))))
  (sSeq (sFor (iSeqK (kName 2)) (gnName 4) (sSeq (sIf (etPure (tOrD (tNotD (tVal (pIsi "tuple" (pName 4)))) (tOrD (tVal (pBin neM (pCall lenM (aCons (pName 4) aNil)) (pC (.int 2)))) (tOrD (tNotD (tVal (pCallX m__law_whole (aCons (pBin ixM (pName 4) (pC (.int 0))) aNil)))) (tNotD (tVal (pCallX m__law_whole (aCons (pBin ixM (pName 4) (pC (.int 1))) aNil)))))))) (sRet (ePure (pC (.bl false)))) sNext)
  (sSeq (sIf (etPure (tOrD (tVal (pBin ltM (pCall minTM (aCons (pName 4) aNil)) (pC (.int 0)))) (tOrD (tVal (pBin geM (pCall maxTM (aCons (pName 4) aNil)) (pName 1))) (tOrD (tVal (pBin eqM (pBin ixM (pName 4) (pC (.int 0))) (pBin ixM (pName 4) (pC (.int 1))))) (tVal (pBin leTM (pName 4) (pName 3))))))) (sRet (ePure (pC (.bl false)))) sNext)
  (sSet 3 (eTake 4)))))
  (sRet (ePure (pC (.bl true)))))))))

theorem w__law_is_net {ds : List D} {R : DR} {Ex : Value → Prop} {vs : List V} (hm : m__law_is_net ds R Ex) (hl : vs.length = ds.length) : t__law_is_net (fun cls _ => Ex cls) { nx := fun _ => R .non true, rt := fun d o _ => R d o } (entC 5 entR ds vs) := by
  obtain ⟨d, rfl, hT, hr⟩ := hm
  obtain ⟨v, rfl⟩ := vs1 hl
  have hi := hT.imm
  iterate 7770 skip
  rw [entR_imm hi]
  unfold t__law_is_net
  rcases hT.cases with ⟨xs, rfl⟩ | ⟨h1, t, h2, h3⟩
  · iterate 7772 skip
    · rename_i h
      rw [ntB_len (by simp at h; omega)] at hr
      exact hr
    rename_i h
    obtain ⟨a, b, rfl⟩ := two_of (xs := xs) (by simp at h; omega)
    have ha := hT.tup a (by simp)
    have hb := hT.tup b (by simp)
    have hia := ha.imm
    have hib := hb.imm
    iterate 7772 skip
    refine ⟨a, rfl, ha.plain, ?_⟩
    iterate 7772 skip
    · rename_i h1
      rw [ntB_int (by simpa using h1)] at hr
      exact hr
    rename_i h1
    obtain ⟨n, rfl⟩ : ∃ n, a = .int n := by cases a <;> simp [D.isInt] at h1; exact ⟨_, rfl⟩
    by_cases hn : 1 ≤ n ∧ n ≤ 24
    · have e1 : decide (1 ≤ n) = true := decide_eq_true hn.1
      have e2 : decide (n ≤ 24) = true := decide_eq_true hn.2
      have e3 : (!decide (n ≤ 24)) = false := by rw [e2]; rfl
      rcases hb.cases with ⟨ls, rfl⟩ | ⟨h1, t, h2, h3⟩
      · have hls := hb.tup
        iterate 7772 skip
        · rename_i h4
          have : ntB (.tup [.int n, .tup ls]) = false := by unfold ntB; simp at h4; simp <;> omega
          rw [this] at hr; exact hr
        rename_i hz
        have hz : ls.length ≤ 120 := by simp at hz; omega
        iterate 7773 skip
        refine for_pre (fun pre ρ => ∃ (l : List (Int × Int)) (q : Int × Int) (c4 : Cell), pre = l.map prD ∧ (∀ p ∈ l, laneOk n p = true) ∧ l.Pairwise (fun a b => pltB a b = true) ∧ ((l = [] ∧ q = (-1, -1)) ∨ ∃ l0, l = l0 ++ [q]) ∧ ρ = [Cell.own (.tup [.int n, .tup ls]), .own (.int n), .own (.tup ls), .own (prD q), c4])
          ⟨[], (-1, -1), _, rfl, (fun _ h => nomatch h), List.Pairwise.nil, .inl ⟨rfl, rfl⟩, rfl⟩ (fun pre x post ρ2 he hI => ?_) (fun ρ2 hI => ?_)
        · obtain ⟨l, q, c4, rfl, hl2, hpw, hq, rfl⟩ := hI
          have hxl : x ∈ ls := by rw [he]; simp
          have hxT := hls x hxl
          have hix := hxT.imm
          have hno : (∀ p, x = prD p → (∀ a ∈ l, pltB a p = true) → laneOk n p = true → False) → R (.bl false) true := fun hz2 => by
            have : ntB (.tup [.int n, .tup ls]) = false := Bool.eq_false_iff.mpr fun z => by
              obtain ⟨l', e, hN⟩ := ntB_true z
              rw [he] at e
              obtain ⟨l1, p, l2, rfl, e1, e2⟩ := split_prs e
              obtain rfl := prDs_inj e1
              obtain ⟨_, _, _, h4, h5⟩ := isNetB_inv hN
              exact hz2 p e2 (fun a ha => (List.pairwise_append.mp h5).2.2 a ha p List.mem_cons_self) (h4 p (by simp))
            rw [this] at hr; exact hr
          rcases hxT.cases with ⟨us, rfl⟩ | ⟨h1, t, h2, h3⟩
          · have hus := hxT.tup
            iterate 7772 skip
            · rename_i h6
              refine hno fun p e => ?_
              cases e
              simp at h6
            rename_i h6
            obtain ⟨a, b, rfl⟩ := two_of (xs := us) (by simp at h6; omega)
            have ha2 := hus a (by simp)
            have hb2 := hus b (by simp)
            iterate 7772 skip
            refine ⟨a, rfl, ha2.plain, ?_⟩
            iterate 7772 skip
            · rename_i h7
              refine hno fun p e => ?_
              cases e
              simp [D.isInt] at h7
            refine ⟨b, rfl, hb2.plain, ?_⟩
            iterate 7772 skip
            · rename_i h7
              refine hno fun p e => ?_
              cases e
              simp [D.isInt] at h7
            rename_i h7 h8
            obtain ⟨i, rfl⟩ : ∃ n, a = .int n := by cases a <;> simp [D.isInt] at h7; exact ⟨_, rfl⟩
            obtain ⟨j, rfl⟩ : ∃ n, b = .int n := by cases b <;> simp [D.isInt] at h8; exact ⟨_, rfl⟩
            refine ⟨[i, j], rfl, by simp, fun m hm1 hm2 => ?_⟩
            iterate 7772 skip
            · rename_i h9
              refine hno fun p e _ hp => ?_
              obtain ⟨p1, p2⟩ := p
              cases e
              have := laneOk_iff.mp hp
              simp at h9 hm1
              dsimp only at this
              omega
            rename_i h9
            refine ⟨[i, j], rfl, by simp, fun M hM1 hM2 => ?_⟩
            iterate 7772 skip
            · rename_i h10
              refine hno fun p e _ hp => ?_
              obtain ⟨p1, p2⟩ := p
              cases e
              have := laneOk_iff.mp hp
              simp at h10 hM1
              dsimp only at this
              omega
            · rename_i h10 h11
              refine hno fun p e _ hp => ?_
              obtain ⟨p1, p2⟩ := p
              cases e
              have := laneOk_iff.mp hp
              simp at h11
              dsimp only at this
              omega
            rename_i h10 h11
            obtain ⟨q1, q2⟩ := q
            refine ⟨_, _, _, _, rfl, rfl, ?_⟩
            have hok : laneOk n (i, j) = true := by
              simp at h9 h10 h11
              have a1 := hm2 i (by simp)
              have a2 := hm2 j (by simp)
              have a3 := hM2 i (by simp)
              have a4 := hM2 j (by simp)
              exact laneOk_iff.mpr ⟨⟨by omega, by omega⟩, ⟨by omega, by omega⟩, h11⟩
            iterate 7772 skip
            · rename_i h12
              refine hno fun p e hl3 hp => ?_
              obtain ⟨p1, p2⟩ := p
              cases e
              have h12 := of_decide_eq_true h12
              have := laneOk_iff.mp hp
              dsimp only at this
              rcases hq with ⟨_, hq⟩ | ⟨l0, rfl⟩
              · cases hq; omega
              · have := pltB_iff.mp (hl3 (q1, q2) (by simp))
                dsimp only at this
                omega
            rename_i h12
            refine ⟨l ++ [(i, j)], (i, j), _, by rw [List.map_append]; rfl, fun p hp => ?_, List.pairwise_append.mpr ⟨hpw, List.pairwise_singleton _ _, fun a ha b hb => ?_⟩, .inr ⟨l, rfl⟩, rfl⟩
            · rcases List.mem_append.mp hp with hp | hp
              · exact hl2 p hp
              · rw [List.mem_singleton.mp hp]; exact hok
            · obtain rfl := List.mem_singleton.mp hb
              have h12 := of_decide_eq_false h12
              rcases hq with ⟨hq, _⟩ | ⟨l0, rfl⟩
              · subst hq; cases ha
              · rw [pltB_iff]
                dsimp only
                have hq3 : a = (q1, q2) ∨ pltB a (q1, q2) = true := by
                  rcases List.mem_append.mp ha with ha | ha
                  · exact .inr ((List.pairwise_append.mp hpw).2.2 a ha _ (by simp))
                  · exact .inl (List.mem_singleton.mp ha)
                rcases hq3 with rfl | hq3
                · dsimp only; omega
                · have := pltB_iff.mp hq3
                  dsimp only at this; omega
          · iterate 7772 skip
            refine ⟨t, h2, ?_⟩
            rw [h3]
            iterate 7772 skip
            refine hno fun p e => ?_
            subst e
            cases h1
        · obtain ⟨l, q, c4, e, hl2, hpw, hq, rfl⟩ := hI
          subst e
          rw [ntB_prs, isNetB_of hn.1 hn.2 (by simpa using hz) hl2 hpw] at hr
          iterate 7772 skip
          exact hr
      · iterate 7772 skip
        refine ⟨t, h2, ?_⟩
        rw [h3]
        iterate 7772 skip
        rw [ntB_tup h1] at hr
        exact hr
    · have : ntB (.tup [.int n, b]) = false := by unfold ntB; split <;> first | rfl | (simp_all <;> omega)
      rw [this] at hr
      iterate 7772 skip
      · exact hr
      · rename_i h2 h3
        exact absurd ⟨of_decide_eq_true h2, of_decide_eq_true (by simpa using h3)⟩ hn
      · exact hr
  · iterate 7772 skip
    refine ⟨t, h2, ?_⟩
    rw [h3]
    iterate 7772 skip
    rw [ntB_no h1] at hr
    exact hr
def qrD (p : D × D) : D := .tup [p.1, p.2]
def thD (many : Int) (ls : List (D × D)) : D := .tup [.int many, .tup (ls.map qrD)]
def CmpOk (d : D) : Prop := d = .non ∨ (∃ b, d = .bl b) ∨ (∃ i : Int, d = .int i ∧ i.natAbs < 10000000000000000000000000000000000000000000000000000000000000) ∨ (∃ s, d = .str s ∧ ∀ c ∈ TL.tl s, c < 1000) ∨ ∃ xs, (d = .tup xs ∨ d = .fl xs) ∧ xs.length ≤ 3 ∧ ∀ x ∈ xs, x ∈ atomL
structure ShA (t : Nat) (many : Int) (ls : List (D × D)) : Prop where
  ok : ∀ p ∈ ls, CmpOk p.1 ∧ CmpOk p.2
  few : ls.length ≤ 200 + t
  le : many.natAbs ≤ 1000000000000000000000000000000000000000000000000000000000000 + 10 * t
/-- what comes of bending t times -/
def ThG (t : Nat) (d : D) : Prop := (∃ many ls, d = thD many ls ∧ ShA t many ls) ∨ (Th 4 d ∧ bndB d = false)
theorem CmpOk.th {d : D} (h : CmpOk d) : Th 1 d := by
  rcases h with rfl | ⟨b, rfl⟩ | ⟨i, rfl, _⟩ | ⟨s, rfl, _⟩ | ⟨xs, e, _, h⟩
  · exact .inl trivial
  · exact .inl trivial
  · exact .inl trivial
  · exact .inl trivial
  · exact .inr ⟨xs, e, fun x hx => atom_th (h x hx)⟩
theorem qr_th {p : D × D} (h : CmpOk p.1 ∧ CmpOk p.2) : Th 2 (qrD p) := .inr ⟨_, .inl rfl, fun x hx => by
  rcases List.mem_cons.mp hx with rfl | hx
  · exact h.1.th
  · rw [List.mem_singleton.mp hx]; exact h.2.th⟩
theorem ShA.th {t : Nat} {many : Int} {ls : List (D × D)} (h : ShA t many ls) : Th 4 (thD many ls) := .inr ⟨_, .inl rfl, fun x hx => by
  rcases List.mem_cons.mp hx with rfl | hx
  · exact .inl trivial
  · rw [List.mem_singleton.mp hx]
    exact .inr ⟨_, .inl rfl, fun y hy => by obtain ⟨p, hp, rfl⟩ := List.mem_map.mp hy; exact qr_th (h.ok p hp)⟩⟩
theorem ThG.th {t : Nat} {d : D} (h : ThG t d) : Th 4 d := by
  rcases h with ⟨many, ls, rfl, h⟩ | h
  · exact h.th
  · exact h.1
theorem cutA_sub1 {α : Type} (l : List α) (lo hi : Option Int) : (cutA l lo hi).Sublist l := by
  unfold cutA
  exact (List.take_sublist _ _).trans (List.drop_sublist _ _)
def m__law_full : DCE := fun ds R Ex => ∃ d C, ds = [d] ∧ BagS C d ∧ C + 10 < 4611686018427387904 ∧ ∀ d' many ls, BagS (C + 10) d' → ShA 0 many ls → R (thD many ls) [some d']
local macro_rules | `(tactic| iterate 7773 skip) => `(tactic| try simp only [putF, newC, List.set_cons_succ, List.set_cons_zero, List.getElem?_cons_zero, List.getElem?_cons_succ, true_and])
local macro_rules | `(tactic| iterate 7770 skip) => `(tactic| simp only [entC, List.zipWith, List.length_cons, List.length_nil, List.replicate, Nat.reduceSub, Nat.reduceAdd, List.cons_append, List.nil_append, List.append_nil, entR_int, entR_bl, entR_str, entR_non, entR_lst, entR_dK, entR_dT, entR_scr, entP_int, entP_lst, entR_pr, entR_net, entP_bag, entR_cl])
local macro_rules | `(tactic| iterate 7771 skip) => `(tactic| repeat' (first | with_reducible refine stp ?_ | ((with_reducible refine gv_pN ?_); refine v_pN ?_) | ((with_reducible refine gv_pN2 ?_); refine v_pN2 ?_) | with_reducible refine v_shuf ?_ | with_reducible refine v_take ?_ | iterate 7769 fail))
local macro_rules | `(tactic| iterate 7772 skip) => `(tactic| repeat' (first | with_reducible refine stp ?_ | ((with_reducible refine gv_pN ?_); refine v_pN ?_) | ((with_reducible refine gv_pN2 ?_); refine v_pN2 ?_) | with_reducible refine v_shuf ?_ | with_reducible refine v_take ?_ | iterate 7769 fail | with_reducible refine v_ite (fun _ => ?_) (fun _ => ?_)))
/- slots: 0 bag 1 pairs 2 at 3 k -/
def t__law_full : ESt := (sSeq (sSetLc 1 (iRange1 (aCons (pC (.int 169)) aNil)) (bName 3) (tVal (pBin neM (pBin fdivM (pName 3) (pC (.int 13))) (pBin modM (pName 3) (pC (.int 13))))) (pTup (aCons (pBin fdivM (pName 3) (pC (.int 13))) (aCons (pBin modM (pName 3) (pC (.int 13))) aNil))) [3])
  (sSeq (sSet 2 (eCall m__law_take 2 (enName 0 (enVal (ePure (pC (.int 30))) enNil))))
  (sRet (eTup (eaCons (eBin addM (ePure (pC (.int 13))) (eCall m__law_take 2 (enName 0 (enVal (ePure (pC (.int 12))) enNil)))) (eaCons (eCallM tupleM (eaCons (eSlN 1 (eoSome (ePure (pName 2))) (eoSome (eBin addM (ePure (pBin addM (pName 2) (pC (.int 119)))) (eCall m__law_take 2 (enName 0 (enVal (ePure (pC (.int 4))) enNil)))))) eaNil)) eaNil))))))

theorem w__law_full {ds : List D} {R : D → List (Option D) → Prop} {Ex : Value → List (Option D) → Prop} {vs : List V} (hm : m__law_full ds R Ex) (hl : vs.length = 1) (hd : ds.length = 1) : t__law_full (fun cls ρ' => ∃ fs, Ex cls fs ∧ fs.length = 1 ∧ finOk fs vs ρ')
      { nx := fun ρ' => ∃ fs, R .non fs ∧ fs.length = 1 ∧ finOk fs vs ρ', rt := fun d o ρ' => o = true ∧ ∃ fs, R d fs ∧ fs.length = 1 ∧ finOk fs vs ρ' } (entC 4 entP ds vs) := by
  obtain ⟨d, C, rfl, hbag, hC, hr⟩ := hm
  obtain ⟨v1, rfl⟩ := vs1 hl
  have hd0 : ∀ {C d}, BagS C d → entP d v1 = .pin d v1 := by rintro C d ⟨a, b, c, rfl, _⟩; rfl
  iterate 7770 skip
  rw [hd0 hbag]
  unfold t__law_full
  iterate 7772 skip
  refine ⟨by decide, by decide, ?_⟩
  refine lc_filt (l := List.range 169) (f := fun i : Nat => D.int i) (fun k => decide ((k : Int) / 13 ≠ (k : Int) % 13)) (fun k => prD ((k : Int) / 13, (k : Int) % 13)) (fun k hk ys i hy => ?_) ?_
  · iterate 7772 skip
    · rename_i h
      rw [if_pos (decide_eq_true (by simpa using h))] at hy
      exact hy
    · rename_i h
      rw [if_neg (by simpa using h)] at hy
      exact hy
  · obtain ⟨l, hl1, hl3, hl2⟩ : ∃ l : List (Int × Int), (List.filter (fun k : Nat => decide ((k : Int) / 13 ≠ (k : Int) % 13)) (List.range 169)).map (fun k : Nat => prD ((k : Int) / 13, (k : Int) % 13)) = l.map prD ∧ l.length ≤ 169 ∧ ∀ p ∈ l, 0 ≤ p.1 ∧ p.1 < 100 ∧ 0 ≤ p.2 ∧ p.2 < 100 :=
      ⟨(List.filter (fun k : Nat => decide ((k : Int) / 13 ≠ (k : Int) % 13)) (List.range 169)).map fun k : Nat => ((k : Int) / 13, (k : Int) % 13), by rw [List.map_map]; rfl, by rw [List.length_map]; exact Nat.le_trans (List.length_filter_le _ _) (by simp), fun p hp => by
        obtain ⟨k, hk, rfl⟩ := List.mem_map.mp hp
        have := List.mem_range.mp (List.mem_filter.mp hk).1
        dsimp only
        omega⟩
    rw [hl1]
    iterate 7772 skip
    refine v_take (fun d1 at_ b1 ha0 ha1 => ?_) hbag (by omega) (by omega) (by omega)
    iterate 7773 skip
    iterate 7772 skip
    refine v_take (fun d2 r2 b2 hr20 hr21 => ?_) b1 (by omega) (by omega) (by omega)
    iterate 7773 skip
    iterate 7772 skip
    refine ⟨⟨_, _, rfl, rfl⟩, ?_⟩
    iterate 7772 skip
    refine v_take (fun d3 r3 b3 hr30 hr31 => ?_) b2 (by omega) (by omega) (by omega)
    iterate 7773 skip
    iterate 7772 skip
    refine ⟨_, _, rfl, rfl, ?_⟩
    iterate 7772 skip
    rw [cutA_map]
    have hs := cutA_sub1 l (some at_) (some (at_ + 119 + r3))
    iterate 7772 skip
    refine ⟨[some d3], ?_, rfl, rfl, trivial⟩
    have := hr d3 (13 + r2) ((cutA l (some at_) (some (at_ + 119 + r3))).map fun p => (.int p.1, .int p.2)) (b3.mono (by omega)) ⟨fun p hp => ?_, ?_, by omega⟩
    · rw [thD, List.map_map] at this
      exact this
    · obtain ⟨q, hq, rfl⟩ := List.mem_map.mp hp
      have := hl2 q (hs.subset hq)
      exact ⟨.inr (.inr (.inl ⟨_, rfl, by omega⟩)), .inr (.inr (.inl ⟨_, rfl, by omega⟩))⟩
    · rw [List.length_map]; have := hs.length_le; omega
/-- what a bent lane is: a pair of things, or none -/
def LnR (d : D) : Prop := (∃ p, d = qrD p ∧ CmpOk p.1 ∧ CmpOk p.2) ∨ (Th 2 d ∧ prB d = false)
theorem cmp_int {i : Int} (h : i.natAbs < 10000000000000000000000000000000000000000000000000000000000000) : CmpOk (.int i) := .inr (.inr (.inl ⟨i, rfl, h⟩))
theorem AnyT.cmp {d : D} (h : AnyT 1 d) : CmpOk d := by
  rcases h with h | ⟨xs, e, hx, h⟩
  · unfold atomL at h
    simp only [List.mem_cons, List.not_mem_nil, or_false] at h
    rcases h with rfl | rfl | rfl | rfl | rfl | rfl | rfl | rfl | rfl | rfl
    · exact cmp_int (by decide)
    · exact cmp_int (by decide)
    · exact cmp_int (by decide)
    · exact cmp_int (by decide)
    · exact cmp_int (by decide)
    · exact .inr (.inl ⟨_, rfl⟩)
    · exact .inl rfl
    · exact .inr (.inr (.inr (.inl ⟨_, rfl, by decide +kernel⟩)))
    · exact .inr (.inr (.inr (.inl ⟨_, rfl, by decide +kernel⟩)))
    · exact cmp_int (by decide)
  · exact .inr (.inr (.inr (.inr ⟨xs, e, hx, h⟩)))
/-- a short text of small signs -/
structure Small (n : Nat) (s : Str) : Prop where
  len : (TL.tl s).length ≤ n
  low : ∀ c ∈ TL.tl s, c < 1000
theorem Small.app {a b : Nat} {x y : Str} (h : Small a x) (g : Small b y) : Small (a + b) (x ++ y) := by
  refine ⟨?_, fun c hc => ?_⟩
  · rw [TL.tl_append, List.length_append]; have := h.len; have := g.len; omega
  · rw [TL.tl_append] at hc
    rcases List.mem_append.mp hc with hc | hc
    · exact h.low c hc
    · exact g.low c hc
theorem Small.up {a b : Nat} {x : Str} (h : Small a x) (g : a ≤ b) : Small b x := ⟨Nat.le_trans h.len g, h.low⟩
def smB (n : Nat) (s : Str) : Bool := decide ((TL.tl s).length ≤ n) && (TL.tl s).all fun c => decide (c < 1000)
theorem sm_of {n : Nat} {s : Str} (h : smB n s = true) : Small n s := by
  simp only [smB, Bool.and_eq_true, decide_eq_true_eq, List.all_eq_true] at h
  exact ⟨h.1, h.2⟩
def shB (d : D) : Bool := match shown1 d with | some t => smB 70 t | none => false
theorem atoms_shown : atomL.all shB = true := by decide +kernel
theorem atom_shown {d : D} (h : d ∈ atomL) : ∃ t, shown1 d = some t ∧ Small 70 t := by
  have := List.all_eq_true.mp atoms_shown d h
  unfold shB at this
  split at this
  · rename_i t e; exact ⟨t, e, sm_of this⟩
  · cases this
theorem sm_comma : ∀ k : Nat, Small 2 ((if k > 0 then ", " else "" : String) : Str) := fun k => by
  by_cases h : k > 0
  · rw [if_pos h]; exact sm_of (by decide +kernel)
  · rw [if_neg h]; exact sm_of (by decide +kernel)
theorem sm_from : ∀ (ts : List Str) (k n : Nat) (acc : Str), (∀ t ∈ ts, Small 70 t) → Small n acc → Small (n + 72 * ts.length) (textFrom k acc ts)
  | [], k, n, acc, _, h => h
  | t :: ts, k, n, acc, ht, h => by
    refine (sm_from ts (k + 1) (n + 2 + 70) _ (fun u hu => ht u (List.mem_cons_of_mem _ hu)) ((h.app (sm_comma k)).app (ht t List.mem_cons_self))).up ?_
    simp only [List.length_cons]; omega
theorem sm_list {ts : List Str} (h : ∀ t ∈ ts, Small 70 t) (hz : ts.length ≤ 3) : Small 300 (listText ts) :=
  ((sm_from ts 0 1 _ h (sm_of (by decide +kernel))).app (b := 1) (sm_of (by decide +kernel))).up (by omega)
theorem sm_join : ∀ (ts : List Str), (∀ t ∈ ts, Small 70 t) → Small (72 * ts.length) (Str.join ", " ts)
  | [], _ => sm_of (by decide +kernel)
  | [t], h => (h t List.mem_cons_self).up (by simp)
  | t :: u :: r, h => by
    have := sm_join (u :: r) fun x hx => h x (List.mem_cons_of_mem _ hx)
    refine ((h t List.mem_cons_self).app (b := 2) (sm_of (s := ", ") (by decide +kernel)) |>.app this).up ?_
    simp only [List.length_cons]; omega
theorem sm_tuple {ts : List Str} (h : ∀ t ∈ ts, Small 70 t) (hz : ts.length ≤ 3) : Small 300 (tupleText ts) := by
  refine (((sm_of (n := 1) (by decide +kernel)).app (sm_join ts h)).app (b := 2) ?_).up (by omega)
  split
  · exact sm_of (by decide +kernel)
  · exact sm_of (by decide +kernel)
theorem atoms_list : ∀ {xs : List D}, (∀ x ∈ xs, x ∈ atomL) → ∃ ts, shownL xs = some ts ∧ ts.length = xs.length ∧ ∀ t ∈ ts, Small 70 t
  | [], _ => ⟨[], rfl, rfl, fun _ h => nomatch h⟩
  | x :: xs, h => by
    obtain ⟨t, e, s⟩ := atom_shown (h x List.mem_cons_self)
    obtain ⟨ts, e2, e3, s2⟩ := atoms_list (xs := xs) fun y hy => h y (List.mem_cons_of_mem _ hy)
    refine ⟨t :: ts, by simp only [shownL, e, e2], by simp [e3], fun u hu => ?_⟩
    rcases List.mem_cons.mp hu with rfl | hu
    · exact s
    · exact s2 u hu
theorem nat_text {n : Nat} (h : n < 10 ^ 61) : Small 61 (Str.ofString (toString ((n : Nat) : Int))) := by
  refine ⟨?_, fun c hc => ?_⟩
  · rw [TL.tl_num]; exact TL.numL_len (by decide) h
  · rw [TL.tl_num] at hc
    have : 48 ≤ c ∧ c ≤ 57 := Classical.byContradiction fun z => TL.numL_free (by omega) hc
    omega
theorem neg_text (n : Nat) : toString (Int.negSucc n) = "-" ++ toString (n + 1) := rfl
theorem int_text {i : Int} (h : i.natAbs < 10 ^ 61) : Small 62 (Str.ofString (toString i)) := by
  cases i with
  | ofNat n => exact (nat_text (n := n) h).up (by omega)
  | negSucc n =>
    have e : Str.ofString (toString (Int.negSucc n)) = Str.ofString "-" ++ Str.ofString (toString (((n + 1 : Nat)) : Int)) := by
      refine TL.ext_tl ?_
      rw [TL.tl_append, TL.tl_ofString, TL.tl_ofString, TL.tl_ofString, neg_text]
      rw [String.toList_append, List.map_append]
      rfl
    rw [e]
    exact ((sm_of (n := 1) (by decide +kernel)).app (nat_text (n := n + 1) h)).up (by omega)
theorem CmpOk.shown {a : D} {R : DR} (h : CmpOk a) (q : ∀ s : Str, (∀ c ∈ TL.tl s, c < 1000) → R (.str s) true) : strLM [a] R := by
  rcases h with rfl | ⟨b, rfl⟩ | ⟨i, rfl, hi⟩ | ⟨s, rfl, hs⟩ | ⟨xs, rfl | rfl, hx, hxs⟩
  · exact q _ (by decide +kernel)
  · exact q _ (by cases b <;> decide +kernel)
  · refine ⟨?_, q _ (int_text (by simpa using hi)).low⟩
    rcases Nat.eq_zero_or_pos i.natAbs with z | z
    · rw [z]; decide
    · exact (Nat.log2_lt (by omega)).mpr (Nat.lt_of_lt_of_le hi (by decide))
  · exact q _ hs
  · obtain ⟨ts, e, e2, h2⟩ := atoms_list hxs
    have := sm_tuple h2 (by omega)
    exact ⟨ts, e, by rw [TL.len_tl, sizeLine_eq]; have := this.len; omega, q _ this.low, q _ (by decide +kernel)⟩
  · obtain ⟨ts, e, e2, h2⟩ := atoms_list hxs
    have := sm_list h2 (by omega)
    exact ⟨ts, e, by rw [TL.len_tl, sizeLine_eq]; have := this.len; omega, q _ this.low, q _ (by decide +kernel)⟩
theorem LnR.th {d : D} (h : LnR d) : Th 2 d := by
  rcases h with ⟨p, rfl, h1, h2⟩ | ⟨h, _⟩
  · exact qr_th ⟨h1, h2⟩
  · exact h
theorem LnR.imm {d : D} (h : LnR d) : d.imm = true := h.th.imm
def m__law_lane_bent : DCE := fun ds R Ex => ∃ (d : D) (C many : Int) (p : D × D), ds = [d, .int many, qrD p] ∧ BagS C d ∧ C + 30 < 4611686018427387904 ∧ (1 ≤ many ∧ many ≤ 1000000000000000000000000000000000000000000000000000000000200) ∧ CmpOk p.1 ∧ CmpOk p.2 ∧ ∀ d' r, BagS (C + 30) d' → LnR r → R r [some d', none, none]
local macro_rules | `(tactic| iterate 7773 skip) => `(tactic| try simp only [putF, newC, List.set_cons_succ, List.set_cons_zero, List.getElem?_cons_zero, List.getElem?_cons_succ, true_and])
local macro_rules | `(tactic| iterate 7770 skip) => `(tactic| simp only [entC, List.zipWith, List.length_cons, List.length_nil, List.replicate, Nat.reduceSub, Nat.reduceAdd, List.cons_append, List.nil_append, List.append_nil, entR_int, entR_bl, entR_str, entR_non, entR_lst, entR_dK, entR_dT, entR_scr, entP_int, entP_lst, entR_pr, entR_net, entP_bag, entR_cl])
local macro_rules | `(tactic| iterate 7771 skip) => `(tactic| repeat' (first | with_reducible refine stp ?_ | ((with_reducible refine gv_pN ?_); refine v_pN ?_) | ((with_reducible refine gv_pN2 ?_); refine v_pN2 ?_) | with_reducible refine v_shuf ?_ | with_reducible refine v_take ?_ | iterate 7769 fail))
local macro_rules | `(tactic| iterate 7772 skip) => `(tactic| repeat' (first | with_reducible refine stp ?_ | ((with_reducible refine gv_pN ?_); refine v_pN ?_) | ((with_reducible refine gv_pN2 ?_); refine v_pN2 ?_) | with_reducible refine v_shuf ?_ | with_reducible refine v_take ?_ | iterate 7769 fail | with_reducible refine v_ite (fun _ => ?_) (fun _ => ?_)))
/- slots: 0 bag 1 many 2 lane 3 some -/
def t__law_lane_bent : ESt := (sSeq (sSet 3 (ePure (pLst (aCons (pRev (pName 2)) (aCons (pTup (aCons (pBin ixM (pName 2) (pC (.int 0))) (aCons (pBin ixM (pName 2) (pC (.int 0))) aNil))) (aCons (pTup (aCons (pBin ixM (pName 2) (pC (.int 0))) (aCons (pName 1) aNil))) (aCons (pTup (aCons (pBin addM (pName 1) (pC (.int 3))) (aCons (pBin ixM (pName 2) (pC (.int 1))) aNil))) (aCons (pTup (aCons (pBin ixM (pName 2) (pC (.int 0))) (aCons (pNeg (pC (.int 1))) aNil))) (aCons (pFrz (pCall listM (aCons (pName 2) aNil))) aNil)))))))))
  (sSeq (sSet 3 (ePure (pBin addM (pName 3) (pLst (aCons (pBin addM (pName 2) (pTup (aCons (pC (.int 0)) aNil))) (aCons (pSl (pName 2) oNone (oSome (pC (.int 1)))) (aCons (pTup (aCons (pC (.bl true)) (aCons (pBin ixM (pName 2) (pC (.int 1))) aNil))) (aCons (pTup (aCons (pBin ixM (pName 2) (pC (.int 0))) (aCons (pC .non) aNil))) (aCons (pTup (aCons (pCall strLM (aCons (pBin ixM (pName 2) (pC (.int 0))) aNil)) (aCons (pBin ixM (pName 2) (pC (.int 1))) aNil))) (aCons (pC .non) aNil))))))))))
  (sRet (eBin ixM (eBin addM (eTake 3) (eLst (eaCons (eTup (eaCons (ePure (pBin ixM (pName 2) (pC (.int 0)))) (eaCons (eCall (m__law_any 5) 2 (enName 0 (enVal (ePure (pC (.int 1))) enNil))) eaNil))) (eaCons (eTup (eaCons (eCall m__law_take 2 (enName 0 (enVal (ePure (pName 1)) enNil))) (eaCons (eCall m__law_take 2 (enName 0 (enVal (ePure (pName 1)) enNil))) eaNil))) eaNil)))) (eCall m__law_take 2 (enName 0 (enVal (ePure (pC (.int 14))) enNil)))))))

theorem w__law_lane_bent {ds : List D} {R : D → List (Option D) → Prop} {Ex : Value → List (Option D) → Prop} {vs : List V} (hm : m__law_lane_bent ds R Ex) (hl : vs.length = 3) (hd : ds.length = 3) : t__law_lane_bent (fun cls ρ' => ∃ fs, Ex cls fs ∧ fs.length = 3 ∧ finOk fs vs ρ')
      { nx := fun ρ' => ∃ fs, R .non fs ∧ fs.length = 3 ∧ finOk fs vs ρ', rt := fun d o ρ' => o = true ∧ ∃ fs, R d fs ∧ fs.length = 3 ∧ finOk fs vs ρ' } (entC 4 entP ds vs) := by
  obtain ⟨d, C, many, ⟨a, b⟩, rfl, hbag, hC, hm1, ha, hb, hr⟩ := hm
  obtain ⟨v1, v2, v3, rfl⟩ := vs3 hl
  have hd0 : ∀ {C d}, BagS C d → entP d v1 = .pin d v1 := by rintro C d ⟨a, b, c, rfl, _⟩; rfl
  have hia := ha.th.imm
  have hib := hb.th.imm
  have hiq : (D.tup [a, b]).imm = true := (qr_th (p := (a, b)) ⟨ha, hb⟩).imm
  iterate 7770 skip
  rw [hd0 hbag]
  rw [show qrD (a, b) = .tup [a, b] from rfl, entP_imm hiq]
  unfold t__law_lane_bent
  iterate 7772 skip
  refine ⟨_, rfl, by simp [immL, hia, hib], ?_⟩
  iterate 7772 skip
  refine ⟨by rw [sizeLine_eq]; simp, ?_⟩
  iterate 7772 skip
  refine ha.shown fun s hs => ?_
  iterate 7772 skip
  refine ⟨by rw [sizeLine_eq]; simp, ?_⟩
  iterate 7772 skip
  have hall : ∀ x ∈ ([D.tup [a, b].reverse, D.tup [a, a], D.tup [a, D.int many], D.tup [D.int (many + 3), b], D.tup [a, D.int (-1)], D.fl [a, b]] ++ [D.tup ([a, b] ++ [D.int 0]), D.tup (cutA [a, b] none (some 1)), D.tup [D.bl true, b], D.tup [a, D.non], D.tup [D.str s, b], D.non]), LnR x := by
    have p2 : ∀ {x y : D}, CmpOk x → CmpOk y → LnR (.tup [x, y]) := fun h g => .inl ⟨(_, _), rfl, h, g⟩
    have ec : cutA [a, b] none (some 1) = [a] := rfl
    intro x hx
    rw [ec] at hx
    simp only [List.cons_append, List.nil_append, List.mem_cons, List.not_mem_nil, or_false] at hx
    rcases hx with rfl | rfl | rfl | rfl | rfl | rfl | rfl | rfl | rfl | rfl | rfl | rfl
    · exact p2 hb ha
    · exact p2 ha ha
    · exact p2 ha (cmp_int (by omega))
    · exact p2 (cmp_int (by omega)) hb
    · exact p2 ha (cmp_int (by decide))
    · refine .inr ⟨.inr ⟨_, .inr rfl, fun y hy => ?_⟩, rfl⟩
      rcases List.mem_cons.mp hy with rfl | hy
      · exact ha.th
      · rw [List.mem_singleton.mp hy]; exact hb.th
    · refine .inr ⟨.inr ⟨_, .inl rfl, fun y hy => ?_⟩, rfl⟩
      simp only [List.mem_cons, List.not_mem_nil, or_false] at hy
      rcases hy with rfl | rfl | rfl
      · exact ha.th
      · exact hb.th
      · exact .inl trivial
    · refine .inr ⟨.inr ⟨_, .inl rfl, fun y hy => ?_⟩, rfl⟩
      rw [List.mem_singleton.mp hy]; exact ha.th
    · exact p2 (.inr (.inl ⟨_, rfl⟩)) hb
    · exact p2 ha (.inl rfl)
    · exact p2 (.inr (.inr (.inr (.inl ⟨_, rfl, hs⟩)))) hb
    · exact .inr ⟨.inl trivial, rfl⟩
  have hlen : ([D.tup [a, b].reverse, D.tup [a, a], D.tup [a, D.int many], D.tup [D.int (many + 3), b], D.tup [a, D.int (-1)], D.fl [a, b]] ++ [D.tup ([a, b] ++ [D.int 0]), D.tup (cutA [a, b] none (some 1)), D.tup [D.bl true, b], D.tup [a, D.non], D.tup [D.str s, b], D.non]).length = 12 := rfl
  generalize [D.tup [a, b].reverse, D.tup [a, a], D.tup [a, D.int many], D.tup [D.int (many + 3), b], D.tup [a, D.int (-1)], D.fl [a, b]] ++ [D.tup ([a, b] ++ [D.int 0]), D.tup (cutA [a, b] none (some 1)), D.tup [D.bl true, b], D.tup [a, D.non], D.tup [D.str s, b], D.non] = L at hall hlen ⊢
  have hLi : immL L = true := immL_iff.mpr fun x hx => (hall x hx).imm
  refine ⟨hLi, ?_⟩
  iterate 7773 skip
  iterate 7772 skip
  have e5 : anyC 1 = 5 := rfl
  refine ⟨_, rfl, rfl, by simp [argN], d, C, 1, rfl, by decide, hbag, by omega, fun d1 r1 b1 hr1 => ?_⟩
  rw [e5] at b1
  have hi1 := hr1.th.imm
  iterate 7773 skip
  iterate 7772 skip
  refine v_take (fun d2 r2 b2 hr20 hr21 => ?_) b1 (by omega) (by omega) (by omega)
  iterate 7773 skip
  iterate 7772 skip
  refine v_take (fun d3 r3 b3 hr30 hr31 => ?_) b2 (by omega) (by omega) (by omega)
  iterate 7773 skip
  iterate 7772 skip
  refine ⟨by rw [sizeLine_eq]; simp; omega, ?_⟩
  have hall2 : ∀ x ∈ L ++ [D.tup [a, r1], D.tup [D.int r2, D.int r3]], LnR x := by
    intro x hx
    rcases List.mem_append.mp hx with hx | hx
    · exact hall x hx
    · simp only [List.mem_cons, List.not_mem_nil, or_false] at hx
      rcases hx with rfl | rfl
      · exact .inl ⟨(a, r1), rfl, ha, hr1.cmp⟩
      · exact .inl ⟨(.int r2, .int r3), rfl, cmp_int (by omega), cmp_int (by omega)⟩
  have hlen2 : (L ++ [D.tup [a, r1], D.tup [D.int r2, D.int r3]]).length = 14 := by simp [hlen]
  generalize L ++ [D.tup [a, r1], D.tup [D.int r2, D.int r3]] = L2 at hall2 hlen2 ⊢
  refine ⟨immL_iff.mpr fun x hx => (hall2 x hx).imm, ?_⟩
  iterate 7772 skip
  refine v_take (fun d4 r4 b4 hr40 hr41 => ?_) b3 (by omega) (by omega) (by omega)
  iterate 7773 skip
  iterate 7772 skip
  obtain ⟨e, he, e1⟩ := atI_some (l := L2) hr40 (by omega)
  refine ⟨e, e1, (hall2 e he).imm, [some d4, none, none], hr _ _ (b4.mono (by omega)) (hall2 e he), rfl, rfl, trivial⟩
theorem atom_bits {i : Int} (h : D.int i ∈ atomL) : i.natAbs ≤ 1000000000000000000000000000000000000000000000000000000000000 := by
  unfold atomL at h
  simp only [List.mem_cons, List.not_mem_nil, or_false, D.int.injEq, reduceCtorEq, false_or, or_false] at h
  rcases h with rfl | rfl | rfl | rfl | rfl | rfl <;> decide
/-- a bendable thing -/
theorem bnd_shape {ls : List D} (h : ls.all prB = true) : ∃ l : List (D × D), ls = l.map qrD := by
  induction ls with
  | nil => exact ⟨[], rfl⟩
  | cons d ls ih =>
    simp only [List.all_cons, Bool.and_eq_true] at h
    obtain ⟨l, rfl⟩ := ih h.2
    have h1 := h.1
    unfold prB at h1
    split at h1
    · rename_i a b; exact ⟨(a, b) :: l, rfl⟩
    · cases h1
theorem bnd_thD {d : D} (h : bndB d = true) : ∃ many l, d = thD many l ∧ 1 ≤ many := by
  unfold bndB at h
  split at h
  · rename_i n ls
    simp only [Bool.and_eq_true, decide_eq_true_eq] at h
    obtain ⟨l, rfl⟩ := bnd_shape h.2
    exact ⟨n, l, rfl, h.1⟩
  · cases h
/-- any thing at first -/
theorem AnyT.thg {d : D} (h : AnyT 4 d) : ThG 0 d := by
  cases e : bndB d with
  | false => exact .inr ⟨h.th, e⟩
  | true =>
    obtain ⟨many, l, rfl, h1⟩ := bnd_thD e
    have part : ∀ {n : Nat} {xs : List D}, AnyT (n + 1) (.tup xs) → xs.length ≤ 3 ∧ ∀ x ∈ xs, AnyT n x := fun h => by
      rcases h with h | ⟨xs, e | e, h2, h3⟩
      · exact (atom_th h).elim
      · cases e; exact ⟨h2, h3⟩
      · cases e
    have h2 := (part h).2
    have hm : AnyT 3 (.int many) := h2 _ (by simp)
    have hls := part (n := 2) (h2 (.tup (l.map qrD)) (by simp))
    refine .inl ⟨many, l, rfl, fun p hp => ?_, ?_, ?_⟩
    · have h3 := part (n := 1) (hls.2 (qrD p) (List.mem_map.mpr ⟨p, hp, rfl⟩))
      exact ⟨(h3.2 p.1 (by simp)).cmp, (h3.2 p.2 (by simp)).cmp⟩
    · have := hls.1; rw [List.length_map] at this; omega
    · rcases hm with h | ⟨xs, e | e, _⟩
      · have := atom_bits h; omega
      · cases e
      · cases e
theorem thD_imm {t : Nat} {many : Int} {ls : List (D × D)} (h : ShA t many ls) : (thD many ls).imm = true := h.th.imm
theorem ShA.cut {t : Nat} {many : Int} {ls ls2 : List (D × D)} (h : ShA t many ls) (hs : ∀ p ∈ ls2, p ∈ ls) (hl : ls2.length ≤ ls.length + 1) : ThG (t + 1) (thD many ls2) :=
  .inl ⟨many, ls2, rfl, fun p hp => h.ok p (hs p hp), by have := h.few; omega, by have := h.le; omega⟩
theorem not_pr {d : D} (h : prB d = false) (many : Int) (l1 l2 : List D) : bndB (.tup [.int many, .tup (l1 ++ d :: l2)]) = false := by
  simp [bndB, h]
theorem CmpOk.shp {d : D} (h : CmpOk d) : d.shp 2 = true := by
  rcases h with rfl | ⟨b, rfl⟩ | ⟨i, rfl, _⟩ | ⟨s, rfl, hs⟩ | ⟨xs, rfl | rfl, _, h⟩
  · rfl
  · rfl
  · rfl
  · show PyData.strOk s = true
    unfold PyData.strOk
    rw [← Array.all_toList, List.all_eq_true]
    intro c hc
    have := hs c hc
    exact decide_eq_true (by omega)
  · exact List.all_eq_true.mpr fun x hx => List.all_eq_true.mp (by decide +kernel : atomL.all (D.shp 1) = true) x (h x hx)
  · exact List.all_eq_true.mpr fun x hx => List.all_eq_true.mp (by decide +kernel : atomL.all (D.shp 1) = true) x (h x hx)
theorem shp_up : ∀ (n : Nat) (d : D), d.shp n = true → d.shp (n + 1) = true := by
  intro n
  induction n with
  | zero => intro d h; cases d <;> first | rfl | exact h | cases h
  | succ n ih =>
    intro d h
    cases d <;> first | rfl | exact h | (simp only [D.shp, List.all_eq_true] at h ⊢; exact fun x hx => ih x (h x hx)) | cases h
theorem lanes_shp {ls : List (D × D)} (h : ∀ p ∈ ls, CmpOk p.1 ∧ CmpOk p.2) : (D.tup (ls.map qrD)).shp 9 = true := by
  have h4 : (D.tup (ls.map qrD)).shp 4 = true := by
    simp only [D.shp, List.all_eq_true]
    intro x hx
    obtain ⟨p, hp, rfl⟩ := List.mem_map.mp hx
    simp only [qrD, D.shp, List.all_cons, List.all_nil, Bool.and_true, Bool.and_eq_true]
    exact ⟨(h p hp).1.shp, (h p hp).2.shp⟩
  exact shp_up _ _ (shp_up _ _ (shp_up _ _ (shp_up _ _ (shp_up _ _ h4))))
theorem use_eqE {xs : List D} {R : DR} (q : R (.bl xs.isEmpty) true) (h : (D.tup xs).shp 9 = true) : eqM (.tup xs) (.tup []) R := by
  refine ⟨h, rfl, ?_⟩
  have : (D.tup xs).eqv (.tup []) = xs.isEmpty := by cases xs <;> simp [D.eqv, eqvL]
  rw [this]; exact q
theorem ShA.lanes {t : Nat} {many : Int} {ls : List (D × D)} (h : ShA t many ls) : Th 3 (.tup (ls.map qrD)) := h.th.tup _ (by simp [thD])
theorem ShA.other {t : Nat} {many : Int} {ls : List (D × D)} {e : D} (h : ShA t many ls) (he : Th 3 e) (hi : ∀ n, e = .int n → n.natAbs ≤ 1000000000000000000000000000000000000000000000000000000000000 + 10 * (t + 1)) : ThG (t + 1) (.tup [e, .tup (ls.map qrD)]) := by
  cases hei : e.isInt with
  | true =>
    obtain ⟨n, rfl⟩ : ∃ n, e = .int n := by cases e <;> simp [D.isInt] at hei; exact ⟨_, rfl⟩
    exact .inl ⟨n, ls, rfl, h.ok, by have := h.few; omega, hi n rfl⟩
  | false =>
    refine .inr ⟨.inr ⟨_, .inl rfl, fun x hx => ?_⟩, bndB_int hei⟩
    simp only [List.mem_cons, List.not_mem_nil, or_false] at hx
    rcases hx with rfl | rfl
    · exact he
    · exact h.lanes
/-- the five other things -/
theorem ShA.odd {t : Nat} {many : Int} {ls : List (D × D)} (h : ShA t many ls) : ∀ e ∈ [D.tup [.int many, .fl (ls.map qrD)], .fl [.int many, .tup (ls.map qrD)], .tup [.int many], .tup [.int many, .tup (ls.map qrD), .tup []], .tup [.tup (ls.map qrD), .int many]], Th 4 e ∧ bndB e = false := by
  have hl := h.lanes
  have hf : Th 3 (.fl (ls.map qrD)) := .inr ⟨_, .inr rfl, fun x hx => hl.tup x hx⟩
  have h0 : Th 3 (.int many) := .inl trivial
  have h1 : Th 3 (.tup []) := .inr ⟨_, .inl rfl, fun x hx => nomatch hx⟩
  intro e he
  simp only [List.mem_cons, List.not_mem_nil, or_false] at he
  rcases he with rfl | rfl | rfl | rfl | rfl
  · refine ⟨.inr ⟨_, .inl rfl, fun x hx => ?_⟩, rfl⟩
    simp only [List.mem_cons, List.not_mem_nil, or_false] at hx
    rcases hx with rfl | rfl <;> assumption
  · refine ⟨.inr ⟨_, .inr rfl, fun x hx => ?_⟩, rfl⟩
    simp only [List.mem_cons, List.not_mem_nil, or_false] at hx
    rcases hx with rfl | rfl <;> assumption
  · refine ⟨.inr ⟨_, .inl rfl, fun x hx => ?_⟩, rfl⟩
    simp only [List.mem_cons, List.not_mem_nil, or_false] at hx
    rcases hx with rfl; assumption
  · refine ⟨.inr ⟨_, .inl rfl, fun x hx => ?_⟩, rfl⟩
    simp only [List.mem_cons, List.not_mem_nil, or_false] at hx
    rcases hx with rfl | rfl | rfl <;> assumption
  · refine ⟨.inr ⟨_, .inl rfl, fun x hx => ?_⟩, rfl⟩
    simp only [List.mem_cons, List.not_mem_nil, or_false] at hx
    rcases hx with rfl | rfl <;> assumption
theorem lo1 {α : Type} (l : List α) (k : Nat) : (cutA l none (some (k : Int))).length = min k l.length := by
  unfold cutA; rw [HT.sIx_nat, HT.sIx_none]; simp
theorem hi1_ {α : Type} (l : List α) (k : Nat) : (cutA l (some (k : Int)) none).length = l.length - min k l.length := by
  unfold cutA; rw [HT.sIx_nat, HT.sIx_none]; simp
theorem mid1 {α : Type} (l : List α) (k j : Nat) : (cutA l (some (k : Int)) (some ((k + j : Nat) : Int))).length ≤ min j (l.length - k) := by
  unfold cutA; rw [HT.sIx_nat, HT.sIx_nat, List.length_take, List.length_drop]; omega
theorem ShA.part {t : Nat} {many : Int} {ls l : List (D × D)} (h : ShA t many ls) (hs : ∀ p ∈ l, p ∈ ls) : immL (l.map qrD) = true := immL_iff.mpr fun x hx => by
  obtain ⟨p, hp, rfl⟩ := List.mem_map.mp hx
  exact (qr_th (h.ok p (hs p hp))).imm
theorem cut_mem {α : Type} {l : List α} {lo hi : Option Int} {x : α} (h : x ∈ cutA l lo hi) : x ∈ l := (cutA_sub1 l lo hi).subset h
def m__law_bent : DCE := fun ds R Ex => ∃ (d : D) (C many : Int) (ls : List (D × D)) (t : Nat), ds = [d, thD many ls] ∧ BagS C d ∧ C + 100 < 4611686018427387904 ∧ 1 ≤ many ∧ t ≤ 10 ∧ ShA t many ls ∧ ∀ d' r, BagS (C + 100) d' → ThG (t + 1) r → R r [some d', none]
local macro_rules | `(tactic| iterate 7773 skip) => `(tactic| try simp only [putF, newC, List.set_cons_succ, List.set_cons_zero, List.getElem?_cons_zero, List.getElem?_cons_succ, true_and])
local macro_rules | `(tactic| iterate 7770 skip) => `(tactic| simp only [entC, List.zipWith, List.length_cons, List.length_nil, List.replicate, Nat.reduceSub, Nat.reduceAdd, List.cons_append, List.nil_append, List.append_nil, entR_int, entR_bl, entR_str, entR_non, entR_lst, entR_dK, entR_dT, entR_scr, entP_int, entP_lst, entR_pr, entR_net, entP_bag, entR_cl])
local macro_rules | `(tactic| iterate 7771 skip) => `(tactic| repeat' (first | with_reducible refine stp ?_ | ((with_reducible refine gv_pN ?_); refine v_pN ?_) | ((with_reducible refine gv_pN2 ?_); refine v_pN2 ?_) | with_reducible refine v_shuf ?_ | with_reducible refine v_take ?_ | iterate 7769 fail))
local macro_rules | `(tactic| iterate 7772 skip) => `(tactic| repeat' (first | with_reducible refine stp ?_ | ((with_reducible refine gv_pN ?_); refine v_pN ?_) | ((with_reducible refine gv_pN2 ?_); refine v_pN2 ?_) | with_reducible refine v_shuf ?_ | with_reducible refine v_take ?_ | iterate 7769 fail | with_reducible refine v_ite (fun _ => ?_) (fun _ => ?_)))
/- slots: 0 bag 1 thing 2 many 3 lanes 4 way 5 at -/
def t__law_bent : ESt := (sSeq (sAsg (kName 1) (gnTup 2 (gnCons (gnName 2) (gnCons (gnName 3) gnNil))))
  (sSeq (sSet 4 (eCall m__law_take 2 (enName 0 (enVal (ePure (pC (.int 9))) enNil))))
  (sSeq (sSet 5 (eCall m__law_take 2 (enName 0 (enVal (ePure (pCall max2M (aCons (pC (.int 1)) (aCons (pCall lenM (aCons (pName 3) aNil)) aNil)))) enNil))))
  (sSeq (sIf (etPure (tVal (pBin eqM (pName 4) (pC (.int 0))))) (sRet (eTup (eaCons (eIxO (eLst (eaCons (ePure (pBin addM (pName 2) (pC (.int 1)))) (eaCons (ePure (pBin subM (pName 2) (pC (.int 1)))) (eaCons (ePure (pC (.int 0))) (eaCons (ePure (pC (.int 25))) (eaCons (ePure (pC (.bl true))) (eaCons (ePure (pC .non)) (eaCons (eCall (m__law_any 5) 2 (enName 0 (enVal (ePure (pC (.int 2))) enNil))) eaNil)))))))) (eCall m__law_take 2 (enName 0 (enVal (ePure (pC (.int 7))) enNil)))) (eaCons (ePure (pName 3)) eaNil)))) sNext)
  (sSeq (sIf (etPure (tOrD (tVal (pBin eqM (pName 4) (pC (.int 1)))) (tVal (pBin eqM (pName 3) (pTup aNil))))) (sRet (eIxO (ePure (pLst (aCons (pTup (aCons (pName 2) (aCons (pFrz (pCall listM (aCons (pName 3) aNil))) aNil))) (aCons (pFrz (pLst (aCons (pName 2) (aCons (pName 3) aNil)))) (aCons (pTup (aCons (pName 2) aNil)) (aCons (pTup (aCons (pName 2) (aCons (pName 3) (aCons (pTup aNil) aNil)))) (aCons (pTup (aCons (pName 3) (aCons (pName 2) aNil))) aNil))))))) (eCall m__law_take 2 (enName 0 (enVal (ePure (pC (.int 5))) enNil))))) sNext)
  (sSeq (sIf (etPure (tVal (pBin eqM (pName 4) (pC (.int 2))))) (sRet (ePure (pTup (aCons (pName 2) (aCons (pBin addM (pSl (pName 3) oNone (oSome (pName 5))) (pSl (pName 3) (oSome (pBin addM (pName 5) (pC (.int 1)))) oNone)) aNil))))) sNext)
  (sSeq (sIf (etPure (tVal (pBin eqM (pName 4) (pC (.int 3))))) (sRet (ePure (pTup (aCons (pName 2) (aCons (pBin addM (pBin addM (pSl (pName 3) oNone (oSome (pName 5))) (pSl (pName 3) (oSome (pName 5)) (oSome (pBin addM (pName 5) (pC (.int 1)))))) (pSl (pName 3) (oSome (pName 5)) oNone)) aNil))))) sNext)
  (sSeq (sIf (etPure (tVal (pBin eqM (pName 4) (pC (.int 4))))) (sRet (ePure (pTup (aCons (pName 2) (aCons (pBin addM (pBin addM (pSl (pName 3) oNone (oSome (pName 5))) (pRev (pSl (pName 3) (oSome (pName 5)) (oSome (pBin addM (pName 5) (pC (.int 2))))))) (pSl (pName 3) (oSome (pBin addM (pName 5) (pC (.int 2)))) oNone)) aNil))))) sNext)
  (sRet (eTup (eaCons (ePure (pName 2)) (eaCons (eBin addM (eBin addM (ePure (pSl (pName 3) oNone (oSome (pName 5)))) (eTup (eaCons (eCall m__law_lane_bent 3 (enName 0 (enVal (ePure (pName 2)) (enVal (ePure (pBin ixM (pName 3) (pName 5))) enNil)))) eaNil))) (ePure (pSl (pName 3) (oSome (pBin addM (pName 5) (pC (.int 1)))) oNone))) eaNil))))))))))))

theorem w__law_bent {ds : List D} {R : D → List (Option D) → Prop} {Ex : Value → List (Option D) → Prop} {vs : List V} (hm : m__law_bent ds R Ex) (hl : vs.length = 2) (hd : ds.length = 2) : t__law_bent (fun cls ρ' => ∃ fs, Ex cls fs ∧ fs.length = 2 ∧ finOk fs vs ρ')
      { nx := fun ρ' => ∃ fs, R .non fs ∧ fs.length = 2 ∧ finOk fs vs ρ', rt := fun d o ρ' => o = true ∧ ∃ fs, R d fs ∧ fs.length = 2 ∧ finOk fs vs ρ' } (entC 6 entP ds vs) := by
  obtain ⟨d, C, many, ls, t, rfl, hbag, hC, hm1, ht, hA, hr⟩ := hm
  obtain ⟨v1, v2, rfl⟩ := vs2 hl
  have hd0 : ∀ {C d}, BagS C d → entP d v1 = .pin d v1 := by rintro C d ⟨a, b, c, rfl, _⟩; rfl
  have hi0 := hA.th.imm
  have hi1 : (D.tup (ls.map qrD)).imm = true := immL_iff.mpr fun x hx => by obtain ⟨p, hp, rfl⟩ := List.mem_map.mp hx; exact (qr_th (hA.ok p hp)).imm
  have hfew := hA.few
  have hle := hA.le
  iterate 7770 skip
  rw [hd0 hbag, entP_imm hi0]
  unfold t__law_bent
  unfold thD
  iterate 7772 skip
  refine v_take (fun d1 way b1 hw0 hw1 => ?_) hbag (by omega) (by omega) (by omega)
  iterate 7773 skip
  iterate 7772 skip
  rw [List.length_map]
  refine v_take (fun d2 at_ b2 hat0 hat1 => ?_) b1 (by split <;> omega) (by split <;> omega) (by omega)
  have hat : at_ < ls.length ∨ (ls.length = 0 ∧ at_ = 0) := by split at hat1 <;> omega
  clear hat1
  obtain ⟨k, rfl⟩ := Int.eq_ofNat_of_zero_le hat0
  iterate 7773 skip
  iterate 7772 skip
  · have e2 : anyC 2 = 17 := rfl
    refine ⟨_, rfl, rfl, by simp [argN], d2, C + 2, 2, rfl, by decide, b2.mono (by omega), by omega, fun d3 r3 b3 hr3 => ?_⟩
    rw [e2] at b3
    have hi3 := hr3.th.imm
    iterate 7773 skip
    iterate 7772 skip
    refine v_take (fun d4 r4 b4 hr40 hr41 => ?_) b3 (by omega) (by omega) (by omega)
    iterate 7773 skip
    iterate 7772 skip
    obtain ⟨e, he, e1⟩ := atI_some (l := [.int (many + 1), .int (many - 1), .int 0, .int 25, .bl true, .non, r3]) hr40 (by simpa using hr41)
    have hT : Th 3 e := by
      simp only [List.mem_cons, List.not_mem_nil, or_false] at he
      rcases he with rfl | rfl | rfl | rfl | rfl | rfl | rfl
      · exact .inl trivial
      · exact .inl trivial
      · exact .inl trivial
      · exact .inl trivial
      · exact .inl trivial
      · exact .inl trivial
      · exact hr3.th.up
    have hn : ∀ n, e = .int n → n.natAbs ≤ 1000000000000000000000000000000000000000000000000000000000000 + 10 * (t + 1) := by
      intro n hn
      simp only [List.mem_cons, List.not_mem_nil, or_false] at he
      rcases he with rfl | rfl | rfl | rfl | rfl | rfl | rfl
      · cases hn; omega
      · cases hn; omega
      · cases hn; simp
      · cases hn; omega
      · cases hn
      · cases hn
      · subst hn
        rcases hr3 with h | ⟨xs, e | e, _⟩
        · have := atom_bits h; omega
        · cases e
        · cases e
    have hie := hT.imm
    refine ⟨_, _, _, .inl rfl, rfl, e1, ?_⟩
    iterate 7772 skip
    exact ⟨[some d4, none], hr _ _ (b4.mono (by omega)) (hA.other hT hn), rfl, rfl, trivial⟩
  · skip
    refine ⟨_, rfl, hi1, ?_⟩
    iterate 7772 skip
    refine ⟨_, rfl, by simpa [immL, D.imm] using hi1, ?_⟩
    iterate 7772 skip
    refine ⟨by simpa [immL, D.imm] using hi1, ?_⟩
    iterate 7772 skip
    refine v_take (fun d3 r3 b3 hr30 hr31 => ?_) b2 (by omega) (by omega) (by omega)
    iterate 7773 skip
    iterate 7772 skip
    obtain ⟨e, he, e1⟩ := atI_some (l := [D.tup [.int many, .fl (ls.map qrD)], .fl [.int many, .tup (ls.map qrD)], .tup [.int many], .tup [.int many, .tup (ls.map qrD), .tup []], .tup [.tup (ls.map qrD), .int many]]) hr30 (by simpa using hr31)
    refine ⟨_, _, _, .inl rfl, rfl, e1, ?_⟩
    iterate 7772 skip
    exact ⟨[some d3, none], hr _ _ (b3.mono (by omega)) (.inr (hA.odd e he)), rfl, rfl, trivial⟩
  · refine use_eqE ?_ (lanes_shp hA.ok)
    iterate 7772 skip
    · skip
      refine ⟨_, rfl, hi1, ?_⟩
      iterate 7772 skip
      refine ⟨_, rfl, by simpa [immL, D.imm] using hi1, ?_⟩
      iterate 7772 skip
      refine ⟨by simpa [immL, D.imm] using hi1, ?_⟩
      iterate 7772 skip
      refine v_take (fun d3 r3 b3 hr30 hr31 => ?_) b2 (by omega) (by omega) (by omega)
      iterate 7773 skip
      iterate 7772 skip
      obtain ⟨e, he, e1⟩ := atI_some (l := [D.tup [.int many, .fl (ls.map qrD)], .fl [.int many, .tup (ls.map qrD)], .tup [.int many], .tup [.int many, .tup (ls.map qrD), .tup []], .tup [.tup (ls.map qrD), .int many]]) hr30 (by simpa using hr31)
      refine ⟨_, _, _, .inl rfl, rfl, e1, ?_⟩
      iterate 7772 skip
      exact ⟨[some d3, none], hr _ _ (b3.mono (by omega)) (.inr (hA.odd e he)), rfl, rfl, trivial⟩
    · have h1 := lo1 ls k
      have h2 := hi1_ ls (k + 1)
      refine ⟨by rw [cutA_map, cutA_map, List.length_map, List.length_map, h1, show ((k : Int) + 1) = ((k + 1 : Nat) : Int) from rfl, h2, sizeLine_eq]; omega, ?_⟩
      rw [cutA_map, cutA_map, ← List.map_append]
      have hm : ∀ p ∈ cutA ls none (some (k : Int)) ++ cutA ls (some ((k : Int) + 1)) none, p ∈ ls := fun p hp => by
        rcases List.mem_append.mp hp with hp | hp <;> exact cut_mem hp
      have hi9 := hA.part hm
      iterate 7772 skip
      exact ⟨[some d2, none], hr _ _ (b2.mono (by omega)) (hA.cut hm (by rw [List.length_append, h1, show ((k : Int) + 1) = ((k + 1 : Nat) : Int) from rfl, h2]; omega)), rfl, rfl, trivial⟩
    · have h1 := lo1 ls k
      have h2 := mid1 ls k 1
      have h3 := hi1_ ls k
      rw [show ((k + 1 : Nat) : Int) = (k : Int) + 1 from rfl] at h2
      refine ⟨by rw [cutA_map, cutA_map, List.length_map, List.length_map, h1, sizeLine_eq]; omega, ?_⟩
      rw [cutA_map, cutA_map, ← List.map_append]
      iterate 7772 skip
      refine ⟨by rw [cutA_map, List.length_map, List.length_map, List.length_append, h1, h3, sizeLine_eq]; omega, ?_⟩
      rw [cutA_map, ← List.map_append]
      have hm : ∀ p ∈ (cutA ls none (some (k : Int)) ++ cutA ls (some (k : Int)) (some ((k : Int) + 1))) ++ cutA ls (some (k : Int)) none, p ∈ ls := fun p hp => by
        rcases List.mem_append.mp hp with hp | hp
        · rcases List.mem_append.mp hp with hp | hp <;> exact cut_mem hp
        · exact cut_mem hp
      have hi9 := hA.part hm
      iterate 7772 skip
      exact ⟨[some d2, none], hr _ _ (b2.mono (by omega)) (hA.cut hm (by rw [List.length_append, List.length_append, h1, h3]; omega)), rfl, rfl, trivial⟩
    · have h1 := lo1 ls k
      have h2 := mid1 ls k 2
      have h3 := hi1_ ls (k + 2)
      rw [show ((k + 2 : Nat) : Int) = (k : Int) + 2 from rfl] at h2 h3
      refine ⟨by rw [cutA_map, cutA_map, List.length_reverse, List.length_map, List.length_map, h1, sizeLine_eq]; omega, ?_⟩
      rw [cutA_map, cutA_map, ← List.map_reverse, ← List.map_append]
      iterate 7772 skip
      refine ⟨by rw [cutA_map, List.length_map, List.length_map, List.length_append, h1, h3, List.length_reverse, sizeLine_eq]; omega, ?_⟩
      rw [cutA_map, ← List.map_append]
      have hm : ∀ p ∈ (cutA ls none (some (k : Int)) ++ (cutA ls (some (k : Int)) (some ((k : Int) + 2))).reverse) ++ cutA ls (some ((k : Int) + 2)) none, p ∈ ls := fun p hp => by
        rcases List.mem_append.mp hp with hp | hp
        · rcases List.mem_append.mp hp with hp | hp
          · exact cut_mem hp
          · exact cut_mem (List.mem_reverse.mp hp)
        · exact cut_mem hp
      have hi9 := hA.part hm
      iterate 7772 skip
      exact ⟨[some d2, none], hr _ _ (b2.mono (by omega)) (hA.cut hm (by rw [List.length_append, List.length_append, h1, h3, List.length_reverse]; omega)), rfl, rfl, trivial⟩
    · rename_i hne _ _ _
      have hne2 : ls ≠ [] := fun z => by subst z; simp at hne
      have hpos := List.length_pos_iff.mpr hne2
      have hk : k < ls.length := by omega
      have hp := List.getElem_mem hk
      have hpo := hA.ok _ hp
      have hpi := (qr_th hpo).imm
      have hlo := hA.part (l := cutA ls none (some (k : Int))) fun p hp => cut_mem hp
      have hhi := hA.part (l := cutA ls (some ((k : Int) + 1)) none) fun p hp => cut_mem hp
      have h1 := lo1 ls k
      have h3 := hi1_ ls (k + 1)
      rw [show ((k + 1 : Nat) : Int) = (k : Int) + 1 from rfl] at h3
      rw [cutA_map]
      refine ⟨hlo, rfl, ?_⟩
      iterate 7772 skip
      refine ⟨_, atI_nat (by rw [List.getElem?_map, List.getElem?_eq_getElem hk]; rfl), ?_⟩
      refine ⟨hpi, rfl, ?_⟩
      iterate 7772 skip
      refine ⟨_, rfl, rfl, by simp [argN], d2, C + 2, many, ls[k], rfl, b2.mono (by omega), by omega, by omega, hpo.1, hpo.2, fun d3 r b3 hr3 => ?_⟩
      have hir := hr3.imm
      iterate 7773 skip
      iterate 7772 skip
      refine ⟨by rw [List.length_map, h1, sizeLine_eq]; simp; omega, ?_⟩
      have hl5 : immL ((cutA ls none (some (k : Int))).map qrD ++ [r]) = true := immL_iff.mpr fun x hx => by
        rcases List.mem_append.mp hx with hx | hx
        · exact immL_iff.mp hlo x hx
        · rw [List.mem_singleton.mp hx]; exact hir
      have hl6 : immL ((cutA ls none (some (k : Int))).map qrD ++ [r] ++ (cutA ls (some ((k : Int) + 1)) none).map qrD) = true := immL_iff.mpr fun x hx => by
        rcases List.mem_append.mp hx with hx | hx
        · exact immL_iff.mp hl5 x hx
        · exact immL_iff.mp hhi x hx
      refine ⟨hl5, ?_⟩
      iterate 7772 skip
      rw [cutA_map]
      refine ⟨hhi, ?_⟩
      iterate 7772 skip
      refine ⟨by rw [List.length_append, List.length_map, List.length_map, h1, h3, sizeLine_eq]; simp; omega, ?_⟩
      iterate 7772 skip
      refine ⟨[some d3, none], hr _ _ (b3.mono (by omega)) ?_, rfl, rfl, trivial⟩
      rcases hr3 with ⟨p, rfl, hp1, hp2⟩ | ⟨hT, hno⟩
      · have e : (cutA ls none (some (k : Int))).map qrD ++ [qrD p] ++ (cutA ls (some ((k : Int) + 1)) none).map qrD = ((cutA ls none (some (k : Int)) ++ p :: cutA ls (some ((k : Int) + 1)) none)).map qrD := by simp
        rw [e]
        refine .inl ⟨many, _, rfl, fun q hq => ?_, ?_, by omega⟩
        · rcases List.mem_append.mp hq with hq | hq
          · exact hA.ok q (cut_mem hq)
          · rcases List.mem_cons.mp hq with rfl | hq
            · exact ⟨hp1, hp2⟩
            · exact hA.ok q (cut_mem hq)
        · rw [List.length_append, List.length_cons, h1, h3]; omega
      · refine .inr ⟨.inr ⟨_, .inl rfl, fun x hx => ?_⟩, by rw [List.append_assoc]; exact not_pr hno _ _ _⟩
        rcases List.mem_cons.mp hx with rfl | hx
        · exact .inl trivial
        · rw [List.mem_singleton.mp hx]
          refine .inr ⟨_, .inl rfl, fun y hy => ?_⟩
          rcases List.mem_append.mp hy with hy | hy
          · rcases List.mem_append.mp hy with hy | hy
            · obtain ⟨q, hq, rfl⟩ := List.mem_map.mp hy
              exact qr_th (hA.ok q (cut_mem hq))
            · rw [List.mem_singleton.mp hy]; exact hT
          · obtain ⟨q, hq, rfl⟩ := List.mem_map.mp hy
            exact qr_th (hA.ok q (cut_mem hq))
theorem ite_cut {A B U : ESt} {X : EX} {E : DEnds} {ρ : Cells} {c : Prop} [Decidable c] (P : Cells → Prop) (h1 : ∀ u' : ESt, (∀ ρ', P ρ' → u' X E ρ') → if c then sSeq A u' X E ρ else sSeq B u' X E ρ) (h2 : ∀ ρ', P ρ' → U X E ρ') : if c then sSeq A U X E ρ else sSeq B U X E ρ := h1 U h2
def m_law : DCX := fun ds R Ex => ∃ ns, ds = [.scr ns] ∧ ns.length ≤ 63 ∧ R (.bl true) true
theorem len_law {ds R Ex} (h : m_law ds R Ex) : ds.length = 1 := by obtain ⟨d, rfl, _⟩ := h; rfl
theorem ThG.start {N : Net} (h : isNetB N = true) : ThG 0 (netD N) := by
  obtain ⟨h1, h2, h3, h4, h5⟩ := isNetB_inv h
  have e : netD N = thD N.n (N.lanes.map fun p => (.int p.1, .int p.2)) := by unfold netD thD; rw [List.map_map]; rfl
  rw [e]
  refine .inl ⟨_, _, rfl, fun p hp => ?_, by rw [List.length_map]; omega, by omega⟩
  obtain ⟨q, hq, rfl⟩ := List.mem_map.mp hp
  have := laneOk_iff.mp (h4 q hq)
  exact ⟨cmp_int (by omega), cmp_int (by omega)⟩
theorem ThG.up {t : Nat} {d : D} (h : ThG t d) : ThG (t + 1) d := by
  rcases h with ⟨many, ls, rfl, h⟩ | h
  · exact .inl ⟨many, ls, rfl, h.ok, by have := h.few; omega, by have := h.le; omega⟩
  · exact .inr h
local macro_rules | `(tactic| iterate 7773 skip) => `(tactic| try simp only [putF, newC, List.set_cons_succ, List.set_cons_zero, List.getElem?_cons_zero, List.getElem?_cons_succ, true_and])
local macro_rules | `(tactic| iterate 7770 skip) => `(tactic| simp only [entC, List.zipWith, List.length_cons, List.length_nil, List.replicate, Nat.reduceSub, Nat.reduceAdd, List.cons_append, List.nil_append, List.append_nil, entR_int, entR_bl, entR_str, entR_non, entR_lst, entR_dK, entR_dT, entR_scr, entP_int, entP_lst, entR_pr, entR_net, entP_bag, entR_cl])
local macro_rules | `(tactic| iterate 7771 skip) => `(tactic| repeat' (first | with_reducible refine stp ?_ | ((with_reducible refine gv_pN ?_); refine v_pN ?_) | ((with_reducible refine gv_pN2 ?_); refine v_pN2 ?_) | with_reducible refine v_shuf ?_ | with_reducible refine v_take ?_ | iterate 7769 fail))
local macro_rules | `(tactic| iterate 7772 skip) => `(tactic| repeat' (first | with_reducible refine stp ?_ | ((with_reducible refine gv_pN ?_); refine v_pN ?_) | ((with_reducible refine gv_pN2 ?_); refine v_pN2 ?_) | with_reducible refine v_shuf ?_ | with_reducible refine v_take ?_ | iterate 7769 fail | with_reducible refine v_ite (fun _ => ?_) (fun _ => ?_)))
/- slots: 0 script 1 cell 2 bag 3 bends 4 thing 5 turn 6 found -/
def t_law : ESt := (sSeq (sFor (iSeqK (kOwn (ePure (pBin addM (pLst (aCons (pCallX m__law_cell (aCons (pName 0) (aCons (pC (.int 0)) aNil))) aNil)) (pSl (pName 0) (oSome (pC (.int 1))) (oSome (pC (.int 16)))))))) (gnName 1) (sSeq (sSet 2 (ePure (pCallX m__law_well (aCons (pName 1) (aCons (pC (.int 0)) aNil)))))
  (sSeq (sSet 3 (eIxO (ePure (pLst (aCons (pC (.int 0)) (aCons (pC (.int 1)) (aCons (pC (.int 1)) (aCons (pC (.int 2)) aNil)))))) (eCall m__law_take 2 (enName 2 (enVal (ePure (pC (.int 4))) enNil)))))
  (sSeq (sSet 4 (eBin ixM (eCall m__law_net 2 (enName 2 (enVal (ePure (pC (.int 24))) enNil))) (ePure (pC (.int 0)))))
  (sSeq (sIf (etVal (eBin eqM (eCall m__law_take 2 (enName 2 (enVal (ePure (pC (.int 8))) enNil))) (ePure (pC (.int 0))))) (sSet 4 (eIxO (eLst (eaCons (eCall m__law_full 1 (enName 2 enNil)) (eaCons (eCall (m__law_any 5) 2 (enName 2 (enVal (ePure (pC (.int 4))) enNil))) eaNil))) (eCall m__law_take 2 (enName 2 (enVal (ePure (pC (.int 2))) enNil))))) sNext)
  (sSeq (sFor (iRg1 (eaCons (ePure (pName 3)) eaNil)) (gnName 5) (sIf (etPure (tVal (pCallX m__law_is_bendable (aCons (pName 4) aNil)))) (sSet 4 (eCall m__law_bent 2 (enName 2 (enVal (ePure (pName 4)) enNil)))) sNext))
  (sSeq (sSet 6 (ePure (pCallX m_is_net (aCons (pName 4) aNil))))
  (sIf (etPure (tOrD (tNotD (tVal (pIsi "bool" (pName 6)))) (tVal (pBin neM (pName 6) (pCallX m__law_is_net (aCons (pName 4) aNil)))))) (sRet (ePure (pC (.bl false)))) sNext))))))))
  (sRet (ePure (pC (.bl true)))))

theorem w_law {ds : List D} {R : DR} {Ex : Value → Prop} {vs : List V} (hm : m_law ds R Ex) (hl : vs.length = ds.length) : t_law (fun cls _ => Ex cls) { nx := fun _ => R .non true, rt := fun d o _ => R d o } (entC 7 entR ds vs) := by
  obtain ⟨ns, rfl, hn, hr⟩ := hm
  obtain ⟨v1, rfl⟩ := vs1 hl
  iterate 7770 skip
  unfold t_law
  iterate 7772 skip
  refine use_cell (fun i0 => ?_) (by omega)
  iterate 7772 skip
  refine ⟨by have := cutA_len ns (some 1) (some 16); rw [List.length_map, sizeLine_eq]; simp; omega, ?_⟩
  rw [cons_ints]
  iterate 7772 skip
  refine for_preT (fun pre ρ => ∃ c1 c2 c3 c4 c5 c6, ρ = [Cell.ro (.scr ns) v1, c1, c2, c3, c4, c5, c6]) ⟨_, _, _, _, _, _, rfl⟩ (fun pre x post ρ2 he hI => ?_) (fun ρ2 hI => ?_)
  · obtain ⟨c1, c2, c3, c4, c5, c6, rfl⟩ := hI
    iterate 7772 skip
    refine use_well (fun d hb => ?_) (by omega)
    iterate 7772 skip
    refine v_take (fun d1 r1 b1 hr10 hr11 => ?_) hb (by omega) (by omega) (by omega)
    iterate 7773 skip
    iterate 7772 skip
    obtain ⟨bends, hbd, e1⟩ := atI_ints (l := [0, 1, 1, 2]) hr10 (by simpa using hr11)
    refine ⟨_, _, _, .inl rfl, rfl, e1, ?_⟩
    have hbd : 0 ≤ bends ∧ bends ≤ 2 := by simp at hbd; omega
    iterate 7773 skip
    iterate 7772 skip
    refine ⟨_, rfl, rfl, by simp [argN], d1, 10, 24, rfl, by omega, by omega, b1.mono (by omega), by omega, fun d2 N g b2 hN hN24 hg0 hg1 => ?_⟩
    have hiN := netD_imm N
    iterate 7773 skip
    iterate 7772 skip
    refine v_take (fun d3 r3 b3 hr30 hr31 => ?_) b2 (by omega) (by omega) (by omega)
    iterate 7773 skip
    iterate 7771 skip
    refine ite_cut (fun ρ => ∃ d th c5 c6, BagS 3000 d ∧ ThG 0 th ∧ ρ = [Cell.ro (.scr ns) v1, .own (.int x), .own d, .own (.int bends), .own th, c5, c6]) (fun u' hu => ?_) ?_
    · iterate 7772 skip
      · refine ⟨_, rfl, rfl, by simp [argN], d3, 2011, rfl, b3.mono (by omega), by omega, fun d4 many ls b4 hA => ?_⟩
        have hi4 := thD_imm hA
        have e4 : anyC 4 = 161 := rfl
        iterate 7773 skip
        iterate 7772 skip
        refine ⟨_, rfl, rfl, by simp [argN], d4, 2021, 4, rfl, by decide, b4.mono (by omega), by omega, fun d5 r5 b5 hr5 => ?_⟩
        rw [e4] at b5
        have hi5 := hr5.th.imm
        iterate 7773 skip
        iterate 7772 skip
        refine v_take (fun d6 r6 b6 hr60 hr61 => ?_) b5 (by omega) (by omega) (by omega)
        iterate 7773 skip
        iterate 7772 skip
        obtain ⟨e, he, e6⟩ := atI_some (l := [thD many ls, r5]) hr60 (by simpa using hr61)
        have hT : ThG 0 e := by
          simp only [List.mem_cons, List.not_mem_nil, or_false] at he
          rcases he with rfl | rfl
          · exact .inl ⟨many, ls, rfl, hA⟩
          · exact hr5.thg
        have hie := hT.th.imm
        refine ⟨_, _, _, .inl rfl, rfl, e6, ?_⟩
        iterate 7773 skip
        iterate 7772 skip
        exact hu _ ⟨d6, e, _, _, b6.mono (by omega), hT, rfl⟩
      · exact hu _ ⟨d3, netD N, _, _, b3.mono (by omega), ThG.start hN, rfl⟩
    · rintro ρ ⟨d, th, c5, c6, hb3, hT, rfl⟩
      iterate 7772 skip
      refine ⟨by omega, by omega, ?_⟩
      refine for_preT (l := List.range bends.toNat) (f := fun i : Nat => D.int i) (fun pre ρ => ∃ d th c5 c6, BagS (3000 + 100 * pre.length) d ∧ ThG pre.length th ∧ ρ = [Cell.ro (.scr ns) v1, .own (.int x), .own d, .own (.int bends), .own th, c5, c6])
        ⟨d, th, _, _, by simpa using hb3, hT, rfl⟩ (fun pre y post ρ2 he2 hI => ?_) (fun ρ2 hI => ?_)
      · obtain ⟨d, th, c5, c6, hb4, hT, rfl⟩ := hI
        have hpl : pre.length + 1 ≤ bends.toNat := by have := congrArg List.length he2; simp at this; omega
        have hiT := hT.th.imm
        iterate 7772 skip
        refine ⟨th, rfl, hT.th, ?_⟩
        iterate 7772 skip
        · rename_i hbn
          obtain ⟨many, ls, rfl, hA, h1⟩ : ∃ many ls, th = thD many ls ∧ ShA pre.length many ls ∧ 1 ≤ many := by
            rcases hT with ⟨many, ls, rfl, hA⟩ | ⟨_, hno⟩
            · refine ⟨many, ls, rfl, hA, ?_⟩
              have : bndB (thD many ls) = true := hbn
              simp [bndB, thD] at this
              exact this.1
            · rw [hno] at hbn; cases hbn
          refine ⟨_, rfl, rfl, by simp [argN], d, _, many, ls, pre.length, rfl, hb4, by omega, h1, by omega, hA, fun d5 r5 b5 hr5 => ?_⟩
          have hi5 := hr5.th.imm
          iterate 7773 skip
          iterate 7772 skip
          exact ⟨d5, r5, _, _, b5.mono (by simp; omega), by simpa using hr5, rfl⟩
        · exact ⟨d, th, _, _, hb4.mono (by simp; omega), by simpa using hT.up, rfl⟩
      · obtain ⟨d, th, c5, c6, hb4, hT, rfl⟩ := hI
        have hiT := hT.th.imm
        iterate 7772 skip
        refine ⟨th, rfl, hT.th, ?_⟩
        iterate 7772 skip
        refine ⟨th, rfl, hT.th, ?_⟩
        iterate 7772 skip
        refine neM_self ?_ rfl rfl
        iterate 7772 skip
        exact ⟨_, _, _, _, _, _, rfl⟩
  · obtain ⟨c1, c2, c3, c4, c5, c6, rfl⟩ := hI
    iterate 7772 skip
    exact hr
theorem law_enter {ns : List Int} (h : ns.length ≤ 63) (b : ∀ z ∈ ns, Builtin.Int.intBits z ≤ 1048576) : m_law [.scr ns] (fun d _ => d = .bl true) (fun _ => False) := ⟨ns, rfl, h, rfl⟩

open PySem PySem.Spec PyProof.Rows L2
set_option linter.all false
set_option Elab.async false
set_option maxRecDepth 100000
set_option maxHeartbeats 40000000
/-! ## where the defs stand, and their walks (printed by gen/fin.py) -/
def fdOf {K : PySem.W.Frag} {n q : Str} {st : Stmt} {a : Addr} {fd : FuncData} (_ : Fun K n q st a fd) : FuncData := fd
def topS (i : Nat) : Stmt := PySem.Challenge.pw_waymusts_k01_what_is_a_net.main.body.getD i (.Pass ⟨0, 0, 0, 0⟩)
abbrev s__law_cell : Stmt := topS 8
abbrev s__law_well : Stmt := topS 9
abbrev s__law_take : Stmt := topS 10
abbrev s__law_shuffled : Stmt := topS 11
abbrev s__law_net : Stmt := topS 12
abbrev s__law_full : Stmt := topS 19
abbrev s__law_any : Stmt := topS 13
abbrev s__law_whole : Stmt := topS 14
abbrev s__law_is_bendable : Stmt := topS 18
abbrev s__law_lane_bent : Stmt := topS 16
abbrev s__law_bent : Stmt := topS 17
abbrev s_is_whole : Stmt := topS 3
abbrev s_is_place : Stmt := topS 4
abbrev s_is_lane : Stmt := topS 5
abbrev s_is_net : Stmt := topS 6
abbrev s__law_is_net : Stmt := topS 15
abbrev s_law : Stmt := topS 20
structure Top (K : PySem.W.Frag) (mg : Str → Option Value) (base : Heap) where
  a__law_cell : Addr
  fd__law_cell : FuncData
  F__law_cell : Fun K "_law_cell" "_law_cell" s__law_cell a__law_cell fd__law_cell
  g__law_cell : mg "_law_cell" = some (.ref a__law_cell)
  b__law_cell : Binds K fd__law_cell ["script", "k"] []
  a__law_well : Addr
  fd__law_well : FuncData
  F__law_well : Fun K "_law_well" "_law_well" s__law_well a__law_well fd__law_well
  g__law_well : mg "_law_well" = some (.ref a__law_well)
  b__law_well : Binds K fd__law_well ["cell", "turn"] []
  a__law_take : Addr
  fd__law_take : FuncData
  F__law_take : Fun K "_law_take" "_law_take" s__law_take a__law_take fd__law_take
  g__law_take : mg "_law_take" = some (.ref a__law_take)
  b__law_take : Binds K fd__law_take ["bag", "many"] []
  a__law_shuffled : Addr
  fd__law_shuffled : FuncData
  F__law_shuffled : Fun K "_law_shuffled" "_law_shuffled" s__law_shuffled a__law_shuffled fd__law_shuffled
  g__law_shuffled : mg "_law_shuffled" = some (.ref a__law_shuffled)
  b__law_shuffled : Binds K fd__law_shuffled ["bag", "some"] []
  a__law_net : Addr
  fd__law_net : FuncData
  F__law_net : Fun K "_law_net" "_law_net" s__law_net a__law_net fd__law_net
  g__law_net : mg "_law_net" = some (.ref a__law_net)
  b__law_net : Binds K fd__law_net ["bag", "most"] []
  a__law_full : Addr
  fd__law_full : FuncData
  F__law_full : Fun K "_law_full" "_law_full" s__law_full a__law_full fd__law_full
  g__law_full : mg "_law_full" = some (.ref a__law_full)
  b__law_full : Binds K fd__law_full ["bag"] []
  a__law_any : Addr
  fd__law_any : FuncData
  F__law_any : Fun K "_law_any" "_law_any" s__law_any a__law_any fd__law_any
  g__law_any : mg "_law_any" = some (.ref a__law_any)
  b__law_any : Binds K fd__law_any ["bag", "deep"] []
  a__law_whole : Addr
  fd__law_whole : FuncData
  F__law_whole : Fun K "_law_whole" "_law_whole" s__law_whole a__law_whole fd__law_whole
  g__law_whole : mg "_law_whole" = some (.ref a__law_whole)
  b__law_whole : Binds K fd__law_whole ["thing"] []
  a__law_is_bendable : Addr
  fd__law_is_bendable : FuncData
  F__law_is_bendable : Fun K "_law_is_bendable" "_law_is_bendable" s__law_is_bendable a__law_is_bendable fd__law_is_bendable
  g__law_is_bendable : mg "_law_is_bendable" = some (.ref a__law_is_bendable)
  b__law_is_bendable : Binds K fd__law_is_bendable ["thing"] []
  a__law_lane_bent : Addr
  fd__law_lane_bent : FuncData
  F__law_lane_bent : Fun K "_law_lane_bent" "_law_lane_bent" s__law_lane_bent a__law_lane_bent fd__law_lane_bent
  g__law_lane_bent : mg "_law_lane_bent" = some (.ref a__law_lane_bent)
  b__law_lane_bent : Binds K fd__law_lane_bent ["bag", "many", "lane"] []
  a__law_bent : Addr
  fd__law_bent : FuncData
  F__law_bent : Fun K "_law_bent" "_law_bent" s__law_bent a__law_bent fd__law_bent
  g__law_bent : mg "_law_bent" = some (.ref a__law_bent)
  b__law_bent : Binds K fd__law_bent ["bag", "thing"] []
  a_is_whole : Addr
  fd_is_whole : FuncData
  F_is_whole : Fun K "is_whole" "is_whole" s_is_whole a_is_whole fd_is_whole
  g_is_whole : mg "is_whole" = some (.ref a_is_whole)
  b_is_whole : Binds K fd_is_whole ["thing"] []
  a_is_place : Addr
  fd_is_place : FuncData
  F_is_place : Fun K "is_place" "is_place" s_is_place a_is_place fd_is_place
  g_is_place : mg "is_place" = some (.ref a_is_place)
  b_is_place : Binds K fd_is_place ["thing", "many"] []
  a_is_lane : Addr
  fd_is_lane : FuncData
  F_is_lane : Fun K "is_lane" "is_lane" s_is_lane a_is_lane fd_is_lane
  g_is_lane : mg "is_lane" = some (.ref a_is_lane)
  b_is_lane : Binds K fd_is_lane ["thing", "many"] []
  a_is_net : Addr
  fd_is_net : FuncData
  F_is_net : Fun K "is_net" "is_net" s_is_net a_is_net fd_is_net
  g_is_net : mg "is_net" = some (.ref a_is_net)
  b_is_net : Binds K fd_is_net ["thing"] []
  a__law_is_net : Addr
  fd__law_is_net : FuncData
  F__law_is_net : Fun K "_law_is_net" "_law_is_net" s__law_is_net a__law_is_net fd__law_is_net
  g__law_is_net : mg "_law_is_net" = some (.ref a__law_is_net)
  b__law_is_net : Binds K fd__law_is_net ["thing"] []
  a_law : Addr
  fd_law : FuncData
  F_law : Fun K "law" "law" s_law a_law fd_law
  g_law : mg "law" = some (.ref a_law)
  b_law : Binds K fd_law ["script"] []
  n_all : mg "all" = none
  n_bool : mg "bool" = none
  n_int : mg "int" = none
  n_isinstance : mg "isinstance" = none
  n_len : mg "len" = none
  n_list : mg "list" = none
  n_max : mg "max" = none
  n_min : mg "min" = none
  n_range : mg "range" = none
  n_sorted : mg "sorted" = none
  n_str : mg "str" = none
  n_tuple : mg "tuple" = none
  t_MOST_LANES : Tok
  c_MOST_LANES : mg "MOST_LANES" = some (.int 120 t_MOST_LANES)
  t_MOST_PLACES : Tok
  c_MOST_PLACES : mg "MOST_PLACES" = some (.int 24 t_MOST_PLACES)
section
variable {P : Program} {w : World} {K : PySem.W.Frag} {mg : Str → Option Value} {base : Heap}
theorem sc__law_cell : FnScope ["script", "k"] ["script", "k"] (defScope s__law_cell) := ⟨rfl, rfl, rfl, by decide +kernel, rfl, by decide +kernel, by decide +kernel⟩
theorem d__law_cell (T : Top K mg base) (cdv : Value) (A : Around) (outer : List Env) (s : Shared) (H : Hp) (E : XK) (hcd : cdv = T.fd__law_cell.code) (hr : Room 1 (A.deeper (envOfC "_law_cell" (defScope s__law_cell) s.heap.objs.size T.a__law_cell cdv))) :
    DSs (cxOf (L2.CX P w) P w K mg base ["script", "k"] "_law_cell" (defScope s__law_cell) T.a__law_cell cdv A outer s H E) (W0 E) (defBody s__law_cell) t__law_cell := by
  have hu : (cxOf (L2.CX P w) P w K mg base ["script", "k"] "_law_cell" (defScope s__law_cell) T.a__law_cell cdv A outer s H E).A.units + 65 < cLine := by have := hr.un; show (A.deeper (envOfC "_law_cell" (defScope s__law_cell) s.heap.objs.size T.a__law_cell cdv)).units + 65 < cLine; omega
  exact (ss_cons (s_if (et_pure (t_cmp (d_lt hu) (p_name (pv 1)) (p_callB (x := "len") (id := "len") d_len (by rfl) T.n_len (by decide +kernel) (a_cons (p_name (pv 0)) a_nil)))) (ss_one (s_ret (e_pure (p_ix (d_ix hu) (p_name (pv 0)) (p_name (pv 1)))))) ss_nil)
    (ss_one (s_ret (e_pure p_int))))
theorem ok__law_cell (T : Top K mg base) : FnOk P w K mg base (L2.CX P w) 2 T.a__law_cell T.fd__law_cell ["script", "k"] (PSp K m__law_cell) :=
  fn_pure T.F__law_cell sc__law_cell (fun ds R Ex h => len__law_cell h) (fun cdv A outer s H E hcd hr => d__law_cell T cdv A outer s H E hcd hr) (fun ds R Ex vs hm hl => w__law_cell hm hl)

theorem sc__law_well : FnScope ["cell", "turn"] ["cell", "turn"] (defScope s__law_well) := ⟨rfl, rfl, rfl, by decide +kernel, rfl, by decide +kernel, by decide +kernel⟩
theorem d__law_well (T : Top K mg base) (cdv : Value) (A : Around) (outer : List Env) (s : Shared) (H : Hp) (E : XK) (hcd : cdv = T.fd__law_well.code) (hr : Room 1 (A.deeper (envOfC "_law_well" (defScope s__law_well) s.heap.objs.size T.a__law_well cdv))) :
    DSs (cxOf (L2.CX P w) P w K mg base ["cell", "turn"] "_law_well" (defScope s__law_well) T.a__law_well cdv A outer s H E) (W0 E) (defBody s__law_well) t__law_well := by
  have hu : (cxOf (L2.CX P w) P w K mg base ["cell", "turn"] "_law_well" (defScope s__law_well) T.a__law_well cdv A outer s H E).A.units + 65 < cLine := by have := hr.un; show (A.deeper (envOfC "_law_well" (defScope s__law_well) s.heap.objs.size T.a__law_well cdv)).units + 65 < cLine; omega
  exact (ss_cons (s_if (et_pure (t_cmp d_ge (p_name (pv 0)) (p_bin d_pow p_int p_int))) (ss_one (s_ret (e_pure (p_lst (a_cons (p_bin d_sub (p_name (pv 0)) (p_bin d_pow p_int p_int)) (a_cons (p_bin d_mod (p_name (pv 0)) p_int) (a_cons (p_name (pv 1)) a_nil))))))) ss_nil)
    (ss_one (s_ret (e_pure (p_lst (a_cons p_int (a_cons (p_bin d_mod (p_name (pv 0)) p_int) (a_cons (p_name (pv 1)) a_nil))))))))
theorem ok__law_well (T : Top K mg base) : FnOk P w K mg base (L2.CX P w) 2 T.a__law_well T.fd__law_well ["cell", "turn"] (PSp K m__law_well) :=
  fn_pure T.F__law_well sc__law_well (fun ds R Ex h => len__law_well h) (fun cdv A outer s H E hcd hr => d__law_well T cdv A outer s H E hcd hr) (fun ds R Ex vs hm hl => w__law_well hm hl)

theorem sc__law_take : FnScope ["bag", "many", "found", "p", "n"] ["bag", "many"] (defScope s__law_take) := ⟨rfl, rfl, rfl, by decide +kernel, rfl, by decide +kernel, by decide +kernel⟩
theorem d__law_take (T : Top K mg base) (cdv : Value) (A : Around) (outer : List Env) (s : Shared) (H : Hp) (E : XK) (hcd : cdv = T.fd__law_take.code) (hr : Room 1 (A.deeper (envOfC "_law_take" (defScope s__law_take) s.heap.objs.size T.a__law_take cdv))) :
    DSs (cxOf (L2.CX P w) P w K mg base ["bag", "many", "found", "p", "n"] "_law_take" (defScope s__law_take) T.a__law_take cdv A outer s H E) (W0 E) (defBody s__law_take) t__law_take := by
  have hu : (cxOf (L2.CX P w) P w K mg base ["bag", "many", "found", "p", "n"] "_law_take" (defScope s__law_take) T.a__law_take cdv A outer s H E).A.units + 65 < cLine := by have := hr.un; show (A.deeper (envOfC "_law_take" (defScope s__law_take) s.heap.objs.size T.a__law_take cdv)).units + 65 < cLine; omega
  exact (ss_cons (s_if (et_pure (t_cmp d_gt (p_ix (d_ix hu) (p_name (pv 0)) p_int) p_int)) (ss_cons (s_set (i := 2) sc__law_take.nd (e_pure (p_bin d_mod (p_ix (d_ix hu) (p_name (pv 0)) p_int) (p_name (pv 1)))))
    (ss_cons (s_setL (pv 0) (e_pure p_int) (e_pure (p_bin d_fdiv (p_ix (d_ix hu) (p_name (pv 0)) p_int) (p_name (pv 1)))))
    (ss_one (s_ret (e_take (pv 2)))))) ss_nil)
    (ss_cons (s_setL (pv 0) (e_pure p_int) (e_pure (p_bin d_add (p_ix (d_ix hu) (p_name (pv 0)) p_int) p_int)))
    (ss_cons (s_set (i := 3) sc__law_take.nd (e_pure p_int))
    (ss_cons (s_set (i := 4) sc__law_take.nd (e_pure (p_bin d_mod (p_bin d_add (p_ix (d_ix hu) (p_name (pv 0)) p_int) (p_bin d_mul' p_int (p_ix (d_ix hu) (p_name (pv 0)) p_int))) (p_name (pv 3)))))
    (ss_cons (s_set (i := 4) sc__law_take.nd (e_pure (p_bin d_mod (p_bin d_add (p_bin d_add (p_bin d_mul' (p_name (pv 4)) (p_name (pv 4))) (p_bin d_mul' p_int (p_bin d_pow (p_ix (d_ix hu) (p_name (pv 0)) p_int) p_int))) p_int) (p_name (pv 3)))))
    (ss_one (s_ret (e_pure (p_bin d_mod (p_bin d_fdiv (p_bin d_mod (p_bin d_pow (p_name (pv 4)) p_int) (p_name (pv 3))) p_int) (p_name (pv 1)))))))))))
theorem ok__law_take (T : Top K mg base) : FnOk P w K mg base (L2.CX P w) 2 T.a__law_take T.fd__law_take ["bag", "many"] (ESp K 2 m__law_take) :=
  fn_eff T.F__law_take sc__law_take (fun cdv A outer s H E hcd hr => d__law_take T cdv A outer s H E hcd hr) (fun ds R Ex vs hm h1 h2 => w__law_take hm h1 h2)

theorem sc__law_shuffled : FnScope ["bag", "some", "left", "found"] ["bag", "some"] (defScope s__law_shuffled) := ⟨rfl, rfl, rfl, by decide +kernel, rfl, by decide +kernel, by decide +kernel⟩
theorem d__law_shuffled (T : Top K mg base) (cdv : Value) (A : Around) (outer : List Env) (s : Shared) (H : Hp) (E : XK) (hcd : cdv = T.fd__law_shuffled.code) (hr : Room 2 (A.deeper (envOfC "_law_shuffled" (defScope s__law_shuffled) s.heap.objs.size T.a__law_shuffled cdv))) :
    DSs (cxOf (L2.CX P w) P w K mg base ["bag", "some", "left", "found"] "_law_shuffled" (defScope s__law_shuffled) T.a__law_shuffled cdv A outer s H E) (W0 E) (defBody s__law_shuffled) t__law_shuffled := by
  have hu : (cxOf (L2.CX P w) P w K mg base ["bag", "some", "left", "found"] "_law_shuffled" (defScope s__law_shuffled) T.a__law_shuffled cdv A outer s H E).A.units + 65 < cLine := by have := hr.un; show (A.deeper (envOfC "_law_shuffled" (defScope s__law_shuffled) s.heap.objs.size T.a__law_shuffled cdv)).units + 65 < cLine; omega
  have tk : Takes (cxOf (L2.CX P w) P w K mg base ["bag", "some", "left", "found"] "_law_shuffled" (defScope s__law_shuffled) T.a__law_shuffled cdv A outer s H E) (W0 E) := takes_of rfl rfl rfl rfl
  have hp : PassesOwn (model P w) (cxOf (L2.CX P w) P w K mg base ["bag", "some", "left", "found"] "_law_shuffled" (defScope s__law_shuffled) T.a__law_shuffled cdv A outer s H E).A (cxOf (L2.CX P w) P w K mg base ["bag", "some", "left", "found"] "_law_shuffled" (defScope s__law_shuffled) T.a__law_shuffled cdv A outer s H E).env (cxOf (L2.CX P w) P w K mg base ["bag", "some", "left", "found"] "_law_shuffled" (defScope s__law_shuffled) T.a__law_shuffled cdv A outer s H E).xe := passes_of rfl
  exact (ss_cons (s_set (i := 2) sc__law_shuffled.nd (e_pure (p_callT (x := "list") (T := "list") (d_list rfl) (by rfl) T.n_list (by decide +kernel) (a_cons (p_name (pv 1)) a_nil))))
    (ss_cons (s_set (i := 3) sc__law_shuffled.nd (e_pure (p_lst a_nil)))
    (ss_cons (s_while hp (et_pure (t_cmp (d_ne hu) (p_name (pv 2)) (p_lst a_nil))) (ss_one (s_expr (e_append (pv 3) (e_popAt (pv 2) (e_call tk (ok__law_take T) (hr.mono (by decide)) (by rfl) T.g__law_take T.F__law_take.kp T.b__law_take (en_name (pv 0) (en_val (e_pure (p_callB (x := "len") (id := "len") d_len (by rfl) T.n_len (by decide +kernel) (a_cons (p_name (pv 2)) a_nil))) en_nil))))))))
    (ss_one (s_ret (e_take (pv 3)))))))
theorem ok__law_shuffled (T : Top K mg base) : FnOk P w K mg base (L2.CX P w) 3 T.a__law_shuffled T.fd__law_shuffled ["bag", "some"] (ESp K 2 m__law_shuffled) :=
  fn_eff T.F__law_shuffled sc__law_shuffled (fun cdv A outer s H E hcd hr => d__law_shuffled T cdv A outer s H E hcd hr) (fun ds R Ex vs hm h1 h2 => w__law_shuffled hm h1 h2)

theorem sc__law_net : FnScope ["bag", "most", "many", "way", "more", "lanes", "k", "turn", "one", "other", "names", "gate"] ["bag", "most"] (defScope s__law_net) := ⟨rfl, rfl, rfl, by decide +kernel, rfl, by decide +kernel, by decide +kernel⟩
theorem d__law_net (T : Top K mg base) (cdv : Value) (A : Around) (outer : List Env) (s : Shared) (H : Hp) (E : XK) (hcd : cdv = T.fd__law_net.code) (hr : Room 3 (A.deeper (envOfC "_law_net" (defScope s__law_net) s.heap.objs.size T.a__law_net cdv))) :
    DSs (cxOf (L2.CX P w) P w K mg base ["bag", "most", "many", "way", "more", "lanes", "k", "turn", "one", "other", "names", "gate"] "_law_net" (defScope s__law_net) T.a__law_net cdv A outer s H E) (W0 E) (defBody s__law_net) t__law_net := by
  have hu : (cxOf (L2.CX P w) P w K mg base ["bag", "most", "many", "way", "more", "lanes", "k", "turn", "one", "other", "names", "gate"] "_law_net" (defScope s__law_net) T.a__law_net cdv A outer s H E).A.units + 65 < cLine := by have := hr.un; show (A.deeper (envOfC "_law_net" (defScope s__law_net) s.heap.objs.size T.a__law_net cdv)).units + 65 < cLine; omega
  have tk : Takes (cxOf (L2.CX P w) P w K mg base ["bag", "most", "many", "way", "more", "lanes", "k", "turn", "one", "other", "names", "gate"] "_law_net" (defScope s__law_net) T.a__law_net cdv A outer s H E) (W0 E) := takes_of rfl rfl rfl rfl
  have hp : PassesOwn (model P w) (cxOf (L2.CX P w) P w K mg base ["bag", "most", "many", "way", "more", "lanes", "k", "turn", "one", "other", "names", "gate"] "_law_net" (defScope s__law_net) T.a__law_net cdv A outer s H E).A (cxOf (L2.CX P w) P w K mg base ["bag", "most", "many", "way", "more", "lanes", "k", "turn", "one", "other", "names", "gate"] "_law_net" (defScope s__law_net) T.a__law_net cdv A outer s H E).env (cxOf (L2.CX P w) P w K mg base ["bag", "most", "many", "way", "more", "lanes", "k", "turn", "one", "other", "names", "gate"] "_law_net" (defScope s__law_net) T.a__law_net cdv A outer s H E).xe := passes_of rfl
  exact (ss_cons (s_set (i := 2) sc__law_net.nd (e_ixO (e_lst (ea_cons (e_pure (p_name (pv 1))) (ea_cons (e_bin d_add (e_pure p_int) (e_call tk (ok__law_take T) (hr.mono (by decide)) (by rfl) T.g__law_take T.F__law_take.kp T.b__law_take (en_name (pv 0) (en_val (e_pure (p_name (pv 1))) en_nil)))) (ea_cons (e_bin d_add (e_pure p_int) (e_call tk (ok__law_take T) (hr.mono (by decide)) (by rfl) T.g__law_take T.F__law_take.kp T.b__law_take (en_name (pv 0) (en_val (e_pure (p_callB (x := "min") (id := "min") (d_min2' rfl hu) (by rfl) T.n_min (by decide +kernel) (a_cons p_int (a_cons (p_name (pv 1)) a_nil)))) en_nil)))) ea_nil)))) (e_call tk (ok__law_take T) (hr.mono (by decide)) (by rfl) T.g__law_take T.F__law_take.kp T.b__law_take (en_name (pv 0) (en_val (e_pure p_int) en_nil)))))
    (ss_cons (s_set (i := 3) sc__law_net.nd (e_call tk (ok__law_take T) (hr.mono (by decide)) (by rfl) T.g__law_take T.F__law_take.kp T.b__law_take (en_name (pv 0) (en_val (e_pure p_int) en_nil))))
    (ss_cons (s_set (i := 4) sc__law_net.nd (e_ixO (e_lst (ea_cons (e_pure p_int) (ea_cons (e_pure p_int) (ea_cons (e_call tk (ok__law_take T) (hr.mono (by decide)) (by rfl) T.g__law_take T.F__law_take.kp T.b__law_take (en_name (pv 0) (en_val (e_pure (p_bin d_add (p_name (pv 2)) p_int)) en_nil))) (ea_cons (e_bin d_add (e_pure (p_name (pv 2))) (e_call tk (ok__law_take T) (hr.mono (by decide)) (by rfl) T.g__law_take T.F__law_take.kp T.b__law_take (en_name (pv 0) (en_val (e_pure (p_bin d_mul' p_int (p_name (pv 2)))) en_nil)))) (ea_cons (e_pure p_int) ea_nil)))))) (e_call tk (ok__law_take T) (hr.mono (by decide)) (by rfl) T.g__law_take T.F__law_take.kp T.b__law_take (en_name (pv 0) (en_val (e_pure p_int) en_nil)))))
    (ss_cons (s_set (i := 5) sc__law_net.nd (e_pure p_dT0))
    (ss_cons (s_for rfl hp (i_rg2 (by rfl) T.n_range (ea_cons (e_pure p_int) (ea_cons (e_pure (p_name (pv 2))) ea_nil))) (g_name (i := 6) sc__law_net.nd) (ss_one (s_if (et_pure (t_cmp (d_lt hu) (p_name (pv 3)) p_int)) (ss_one (s_put hu (pv 5) (e_tup (ea_cons (e_ixO (e_lst (ea_cons (e_call tk (ok__law_take T) (hr.mono (by decide)) (by rfl) T.g__law_take T.F__law_take.kp T.b__law_take (en_name (pv 0) (en_val (e_pure (p_name (pv 6))) en_nil))) (ea_cons (e_bin d_sub (e_pure (p_bin d_sub (p_name (pv 6)) p_int)) (e_call tk (ok__law_take T) (hr.mono (by decide)) (by rfl) T.g__law_take T.F__law_take.kp T.b__law_take (en_name (pv 0) (en_val (e_pure (p_callB (x := "min") (id := "min") (d_min2' rfl hu) (by rfl) T.n_min (by decide +kernel) (a_cons (p_name (pv 6)) (a_cons p_int a_nil)))) en_nil)))) (ea_cons (e_pure p_int) ea_nil)))) (e_pure (p_name (pv 3)))) (ea_cons (e_pure (p_name (pv 6))) ea_nil))) (e_pure p_bl))) ss_nil)))
    (ss_cons (s_for rfl hp (i_rg1 (by rfl) T.n_range (ea_cons (e_pure (p_name (pv 4))) ea_nil)) (g_name (i := 7) sc__law_net.nd) (ss_cons (s_set (i := 8) sc__law_net.nd (e_call tk (ok__law_take T) (hr.mono (by decide)) (by rfl) T.g__law_take T.F__law_take.kp T.b__law_take (en_name (pv 0) (en_val (e_pure (p_name (pv 2))) en_nil))))
    (ss_cons (s_set (i := 9) sc__law_net.nd (e_ixO (e_lst (ea_cons (e_call tk (ok__law_take T) (hr.mono (by decide)) (by rfl) T.g__law_take T.F__law_take.kp T.b__law_take (en_name (pv 0) (en_val (e_pure (p_name (pv 2))) en_nil))) (ea_cons (e_bin d_mod (e_bin d_add (e_pure (p_bin d_add (p_name (pv 8)) p_int)) (e_call tk (ok__law_take T) (hr.mono (by decide)) (by rfl) T.g__law_take T.F__law_take.kp T.b__law_take (en_name (pv 0) (en_val (e_pure p_int) en_nil)))) (e_pure (p_name (pv 2)))) ea_nil))) (e_call tk (ok__law_take T) (hr.mono (by decide)) (by rfl) T.g__law_take T.F__law_take.kp T.b__law_take (en_name (pv 0) (en_val (e_pure p_int) en_nil)))))
    (ss_one (s_if (et_pure (t_w (w_and (t_cmp (d_ne hu) (p_name (pv 8)) (p_name (pv 9))) (w_and1 (t_cmp (d_lt hu) (p_callB (x := "len") (id := "len") d_len (by rfl) T.n_len (by decide +kernel) (a_cons (p_name (pv 5)) a_nil)) p_int))))) (ss_one (s_put hu (pv 5) (e_pure (p_tup (a_cons (p_name (pv 8)) (a_cons (p_name (pv 9)) a_nil)))) (e_pure p_bl))) ss_nil)))))
    (ss_cons (s_set (i := 10) sc__law_net.nd (e_call tk (ok__law_shuffled T) (hr.mono (by decide)) (by rfl) T.g__law_shuffled T.F__law_shuffled.kp T.b__law_shuffled (en_name (pv 0) (en_val (e_pure (p_listRg1 rfl (by rfl) T.n_list (by rfl) T.n_range (p_name (pv 2)))) en_nil))))
    (ss_cons (s_set (i := 11) sc__law_net.nd (e_ixO (e_lst (ea_cons (e_pure (p_ix (d_ix hu) (p_name (pv 10)) p_int)) (ea_cons (e_pure (p_ix (d_ix hu) (p_name (pv 10)) p_int)) (ea_cons (e_call tk (ok__law_take T) (hr.mono (by decide)) (by rfl) T.g__law_take T.F__law_take.kp T.b__law_take (en_name (pv 0) (en_val (e_pure (p_name (pv 2))) en_nil))) ea_nil)))) (e_call tk (ok__law_take T) (hr.mono (by decide)) (by rfl) T.g__law_take T.F__law_take.kp T.b__law_take (en_name (pv 0) (en_val (e_pure p_int) en_nil)))))
    (ss_one (s_ret (e_pure (p_tup (a_cons (p_tup (a_cons (p_name (pv 2)) (a_cons (p_callT (x := "tuple") (T := "tuple") d_tuple (by rfl) T.n_tuple (by decide +kernel) (a_cons (p_callB (x := "sorted") (id := "sorted") (d_sorted rfl) (by rfl) T.n_sorted (by decide +kernel) (a_cons (p_lcD rfl sc__law_net.nd (pv 5) (own := [(("one" : Str), 8), (("other" : Str), 9)]) (by exact ⟨rfl, by decide +kernel, by show ∀ p : Str × Nat, p ∈ _ → (["bag", "most", "many", "way", "more", "lanes", "k", "turn", "one", "other", "names", "gate"] : List Str)[p.2]? = some p.1; decide +kernel, by show ∀ y : Str × NameKind, y ∈ _ → y.2 = NameKind.free → (defScope s__law_net).names.lookup y.1 = some .cell ∨ (defScope s__law_net).names.lookup y.1 = some .free; decide +kernel, by show ∀ y : Str × NameKind, y ∈ _ → y.2 = NameKind.local ∨ y.2 = NameKind.cell → y.1 ∈ ([(("one" : Str), 8), (("other" : Str), 9)] : List (Str × Nat)).map (·.1) ∨ y.1 ∉ (["bag", "most", "many", "way", "more", "lanes", "k", "turn", "one", "other", "names", "gate"] : List Str); decide +kernel⟩) (fun _ _ _ _ _ => (b_tup rfl (b_cons (b_name (pg_name (i := 8) sc__law_net.nd rfl (by first | exact .inl rfl | exact .inr rfl))) (b_cons (b_name (pg_name (i := 9) sc__law_net.nd rfl (by first | exact .inl rfl | exact .inr rfl))) b_nil)))) (fun _ _ _ _ _ => ts_nil) (fun _ _ _ _ _ => (p_tup (a_cons (p_ix (d_ix hu) (p_name (pv 10)) (p_name (pv 8))) (a_cons (p_ix (d_ix hu) (p_name (pv 10)) (p_name (pv 9))) a_nil))))) a_nil)) a_nil)) a_nil))) (a_cons (p_name (pv 11)) a_nil))))))))))))))
theorem ok__law_net (T : Top K mg base) : FnOk P w K mg base (L2.CX P w) 4 T.a__law_net T.fd__law_net ["bag", "most"] (ESp K 2 m__law_net) :=
  fn_eff T.F__law_net sc__law_net (fun cdv A outer s H E hcd hr => d__law_net T cdv A outer s H E hcd hr) (fun ds R Ex vs hm h1 h2 => w__law_net hm h1 h2)

theorem sc__law_full : FnScope ["bag", "pairs", "at", "k"] ["bag"] (defScope s__law_full) := ⟨rfl, rfl, rfl, by decide +kernel, rfl, by decide +kernel, by decide +kernel⟩
theorem d__law_full (T : Top K mg base) (cdv : Value) (A : Around) (outer : List Env) (s : Shared) (H : Hp) (E : XK) (hcd : cdv = T.fd__law_full.code) (hr : Room 2 (A.deeper (envOfC "_law_full" (defScope s__law_full) s.heap.objs.size T.a__law_full cdv))) :
    DSs (cxOf (L2.CX P w) P w K mg base ["bag", "pairs", "at", "k"] "_law_full" (defScope s__law_full) T.a__law_full cdv A outer s H E) (W0 E) (defBody s__law_full) t__law_full := by
  have hu : (cxOf (L2.CX P w) P w K mg base ["bag", "pairs", "at", "k"] "_law_full" (defScope s__law_full) T.a__law_full cdv A outer s H E).A.units + 65 < cLine := by have := hr.un; show (A.deeper (envOfC "_law_full" (defScope s__law_full) s.heap.objs.size T.a__law_full cdv)).units + 65 < cLine; omega
  have tk : Takes (cxOf (L2.CX P w) P w K mg base ["bag", "pairs", "at", "k"] "_law_full" (defScope s__law_full) T.a__law_full cdv A outer s H E) (W0 E) := takes_of rfl rfl rfl rfl
  exact (ss_cons (s_setLc (i := 1) rfl sc__law_full.nd (i_range1 (by rfl) T.n_range (a_cons p_int a_nil)) (own := [(("k" : Str), 3)]) (by exact ⟨rfl, by decide +kernel, by show ∀ p : Str × Nat, p ∈ _ → (["bag", "pairs", "at", "k"] : List Str)[p.2]? = some p.1; decide +kernel, by show ∀ y : Str × NameKind, y ∈ _ → y.2 = NameKind.free → (defScope s__law_full).names.lookup y.1 = some .cell ∨ (defScope s__law_full).names.lookup y.1 = some .free; decide +kernel, by show ∀ y : Str × NameKind, y ∈ _ → y.2 = NameKind.local ∨ y.2 = NameKind.cell → y.1 ∈ ([(("k" : Str), 3)] : List (Str × Nat)).map (·.1) ∨ y.1 ∉ (["bag", "pairs", "at", "k"] : List Str); decide +kernel⟩) (fun _ _ _ _ _ => (b_name (pg_name (i := 3) sc__law_full.nd rfl (by first | exact .inl rfl | exact .inr rfl)))) (fun _ _ _ _ _ => (ts_one (t_cmp (d_ne hu) (p_bin d_fdiv (p_name (pv 3)) p_int) (p_bin d_mod (p_name (pv 3)) p_int)))) (fun _ _ _ _ _ => (p_tup (a_cons (p_bin d_fdiv (p_name (pv 3)) p_int) (a_cons (p_bin d_mod (p_name (pv 3)) p_int) a_nil)))))
    (ss_cons (s_set (i := 2) sc__law_full.nd (e_call tk (ok__law_take T) (hr.mono (by decide)) (by rfl) T.g__law_take T.F__law_take.kp T.b__law_take (en_name (pv 0) (en_val (e_pure p_int) en_nil))))
    (ss_one (s_ret (e_tup (ea_cons (e_bin d_add (e_pure p_int) (e_call tk (ok__law_take T) (hr.mono (by decide)) (by rfl) T.g__law_take T.F__law_take.kp T.b__law_take (en_name (pv 0) (en_val (e_pure p_int) en_nil)))) (ea_cons (e_callT (x := "tuple") (T := "tuple") d_tuple (by rfl) T.n_tuple (by decide +kernel) (ea_cons (e_sliceN (pv 1) (eo_some (e_pure (p_name (pv 2)))) (eo_some (e_bin d_add (e_pure (p_bin d_add (p_name (pv 2)) p_int)) (e_call tk (ok__law_take T) (hr.mono (by decide)) (by rfl) T.g__law_take T.F__law_take.kp T.b__law_take (en_name (pv 0) (en_val (e_pure p_int) en_nil)))))) ea_nil)) ea_nil)))))))
theorem ok__law_full (T : Top K mg base) : FnOk P w K mg base (L2.CX P w) 3 T.a__law_full T.fd__law_full ["bag"] (ESp K 1 m__law_full) :=
  fn_eff T.F__law_full sc__law_full (fun cdv A outer s H E hcd hr => d__law_full T cdv A outer s H E hcd hr) (fun ds R Ex vs hm h1 h2 => w__law_full hm h1 h2)

theorem sc__law_any : FnScope ["bag", "deep", "some", "way", "parts", "k"] ["bag", "deep"] (defScope s__law_any) := ⟨rfl, rfl, rfl, by decide +kernel, rfl, by decide +kernel, by decide +kernel⟩
theorem d__law_any (T : Top K mg base) (n : Nat) (ih : FnOk P w K mg base (L2.CX P w) (2 + n) T.a__law_any T.fd__law_any ["bag", "deep"] (ESp K 2 (m__law_any n))) (cdv : Value) (A : Around) (outer : List Env) (s : Shared) (H : Hp) (E : XK) (hcd : cdv = T.fd__law_any.code) (hr : Room (2 + n) (A.deeper (envOfC "_law_any" (defScope s__law_any) s.heap.objs.size T.a__law_any cdv))) :
    DSs (cxOf (L2.CX P w) P w K mg base ["bag", "deep", "some", "way", "parts", "k"] "_law_any" (defScope s__law_any) T.a__law_any cdv A outer s H E) (W0 E) (defBody s__law_any) (t__law_any n) := by
  have hu : (cxOf (L2.CX P w) P w K mg base ["bag", "deep", "some", "way", "parts", "k"] "_law_any" (defScope s__law_any) T.a__law_any cdv A outer s H E).A.units + 65 < cLine := by have := hr.un; show (A.deeper (envOfC "_law_any" (defScope s__law_any) s.heap.objs.size T.a__law_any cdv)).units + 65 < cLine; omega
  have tk : Takes (cxOf (L2.CX P w) P w K mg base ["bag", "deep", "some", "way", "parts", "k"] "_law_any" (defScope s__law_any) T.a__law_any cdv A outer s H E) (W0 E) := takes_of rfl rfl rfl rfl
  exact (ss_cons (s_set (i := 2) sc__law_any.nd (e_pure (p_lst (a_cons p_int (a_cons p_int (a_cons (p_neg p_int) (a_cons p_int (a_cons p_int (a_cons p_bl (a_cons p_non (a_cons p_str (a_cons p_str (a_cons (p_bin d_pow p_int p_int) a_nil)))))))))))))
    (ss_cons (s_set (i := 3) sc__law_any.nd (e_call tk (ok__law_take T) (hr.mono (by omega)) (by rfl) T.g__law_take T.F__law_take.kp T.b__law_take (en_name (pv 0) (en_val (e_pure p_int) en_nil))))
    (ss_cons (s_if (et_pure (t_w (w_or (t_cmp (d_lt hu) (p_name (pv 3)) p_int) (w_or1 (t_cmp (d_eq hu) (p_name (pv 1)) p_int))))) (ss_one (s_ret (e_pure (p_ix (d_ix hu) (p_name (pv 2)) (p_bin d_mod (p_name (pv 3)) p_int))))) ss_nil)
    (ss_cons (s_setLcR (ix := 4) rfl sc__law_any.nd (by rfl) T.n_range (ea_cons (e_call tk (ok__law_take T) (hr.mono (by omega)) (by rfl) T.g__law_take T.F__law_take.kp T.b__law_take (en_name (pv 0) (en_val (e_pure p_int) en_nil))) ea_nil) (own := [(("k" : Str), 5)]) (by exact ⟨rfl, by decide +kernel, by show ∀ p : Str × Nat, p ∈ _ → (["bag", "deep", "some", "way", "parts", "k"] : List Str)[p.2]? = some p.1; decide +kernel, by show ∀ y : Str × NameKind, y ∈ _ → y.2 = NameKind.free → (defScope s__law_any).names.lookup y.1 = some .cell ∨ (defScope s__law_any).names.lookup y.1 = some .free; decide +kernel, by show ∀ y : Str × NameKind, y ∈ _ → y.2 = NameKind.local ∨ y.2 = NameKind.cell → y.1 ∈ ([(("k" : Str), 5)] : List (Str × Nat)).map (·.1) ∨ y.1 ∉ (["bag", "deep", "some", "way", "parts", "k"] : List Str); decide +kernel⟩) (fun _ _ _ _ _ => (b_name (pg_name (i := 5) sc__law_any.nd rfl (by first | exact .inl rfl | exact .inr rfl)))) (fun _ _ _ _ _ => ets_nil) (fun _ _ _ _ _ => (e_callN ih hr (by rfl) T.g__law_any T.F__law_any.kp T.b__law_any (en_name (pv 0) (en_val (e_pure (p_bin d_sub (p_name (pv 1)) p_int)) en_nil)))))
    (ss_one (s_ret (e_if (et_pure (t_cmp (d_lt hu) (p_name (pv 3)) p_int)) (e_frz (e_take (pv 4))) (e_pure (p_callT (x := "tuple") (T := "tuple") d_tuple (by rfl) T.n_tuple (by decide +kernel) (a_cons (p_name (pv 4)) a_nil))))))))))
theorem ok__law_any (T : Top K mg base) : ∀ n : Nat, FnOk P w K mg base (L2.CX P w) (2 + n) T.a__law_any T.fd__law_any ["bag", "deep"] (ESp K 2 (m__law_any n))
  | 0 => ⟨fun _ _ _ _ h => by obtain ⟨_, _, _, _, _, _, _, z, _⟩ := h; exact z.elim, fun _ _ _ _ _ _ _ _ _ _ _ _ _ h => by obtain ⟨_, _, _, _, _, _, _, z, _⟩ := h; exact z.elim⟩
  | n + 1 => fn_eff (k := 2 + n) T.F__law_any sc__law_any (fun cdv A outer s H E hcd hr => d__law_any T n (ok__law_any T n) cdv A outer s H E hcd hr) (fun ds R Ex vs hm h1 h2 => w__law_any hm h1 h2)

theorem sc__law_whole : FnScope ["thing"] ["thing"] (defScope s__law_whole) := ⟨rfl, rfl, rfl, by decide +kernel, rfl, by decide +kernel, by decide +kernel⟩
theorem d__law_whole (T : Top K mg base) (cdv : Value) (A : Around) (outer : List Env) (s : Shared) (H : Hp) (E : XK) (hcd : cdv = T.fd__law_whole.code) (hr : Room 1 (A.deeper (envOfC "_law_whole" (defScope s__law_whole) s.heap.objs.size T.a__law_whole cdv))) :
    DSs (cxOf (L2.CX P w) P w K mg base ["thing"] "_law_whole" (defScope s__law_whole) T.a__law_whole cdv A outer s H E) (W0 E) (defBody s__law_whole) t__law_whole := by
  have hu : (cxOf (L2.CX P w) P w K mg base ["thing"] "_law_whole" (defScope s__law_whole) T.a__law_whole cdv A outer s H E).A.units + 65 < cLine := by have := hr.un; show (A.deeper (envOfC "_law_whole" (defScope s__law_whole) s.heap.objs.size T.a__law_whole cdv)).units + 65 < cLine; omega
  exact (ss_one (s_ret (e_pure (p_and (p_isi (n := "int") (by rfl) T.n_isinstance (p_name (pv 0)) (pe_bltn (v := .ty "int") (u := .type "int") (by rfl) T.n_int (by decide +kernel) rfl)) (p_one (p_not (p_isi (n := "bool") (by rfl) T.n_isinstance (p_name (pv 0)) (pe_bltn (v := .ty "bool") (u := .type "bool") (by rfl) T.n_bool (by decide +kernel) rfl))))))))
theorem ok__law_whole (T : Top K mg base) : FnOk P w K mg base (L2.CX P w) 2 T.a__law_whole T.fd__law_whole ["thing"] (PSp K m__law_whole) :=
  fn_pure T.F__law_whole sc__law_whole (fun ds R Ex h => len__law_whole h) (fun cdv A outer s H E hcd hr => d__law_whole T cdv A outer s H E hcd hr) (fun ds R Ex vs hm hl => w__law_whole hm hl)

theorem sc__law_is_bendable : FnScope ["thing", "lane"] ["thing"] (defScope s__law_is_bendable) := ⟨rfl, rfl, rfl, by decide +kernel, rfl, by decide +kernel, by decide +kernel⟩
theorem d__law_is_bendable (T : Top K mg base) (cdv : Value) (A : Around) (outer : List Env) (s : Shared) (H : Hp) (E : XK) (hcd : cdv = T.fd__law_is_bendable.code) (hr : Room 2 (A.deeper (envOfC "_law_is_bendable" (defScope s__law_is_bendable) s.heap.objs.size T.a__law_is_bendable cdv))) :
    DSs (cxOf (L2.CX P w) P w K mg base ["thing", "lane"] "_law_is_bendable" (defScope s__law_is_bendable) T.a__law_is_bendable cdv A outer s H E) (W0 E) (defBody s__law_is_bendable) t__law_is_bendable := by
  have hu : (cxOf (L2.CX P w) P w K mg base ["thing", "lane"] "_law_is_bendable" (defScope s__law_is_bendable) T.a__law_is_bendable cdv A outer s H E).A.units + 65 < cLine := by have := hr.un; show (A.deeper (envOfC "_law_is_bendable" (defScope s__law_is_bendable) s.heap.objs.size T.a__law_is_bendable cdv)).units + 65 < cLine; omega
  have tk : Takes (cxOf (L2.CX P w) P w K mg base ["thing", "lane"] "_law_is_bendable" (defScope s__law_is_bendable) T.a__law_is_bendable cdv A outer s H E) (W0 E) := takes_of rfl rfl rfl rfl
  exact (ss_cons (s_if (et_pure (t_w (w_or (t_not (t_val (p_isi (n := "tuple") (by rfl) T.n_isinstance (p_name (pv 0)) (pe_bltn (v := .ty "tuple") (u := .type "tuple") (by rfl) T.n_tuple (by decide +kernel) rfl)))) (w_or (t_cmp (d_ne hu) (p_callB (x := "len") (id := "len") d_len (by rfl) T.n_len (by decide +kernel) (a_cons (p_name (pv 0)) a_nil)) p_int) (w_or (t_not (t_val (p_callX tk (ok__law_whole T) (hr.mono (by decide)) (by rfl) T.g__law_whole T.F__law_whole.kp T.b__law_whole (a_cons (p_ix (d_ix hu) (p_name (pv 0)) p_int) a_nil)))) (w_or1 (t_cmp (d_lt hu) (p_ix (d_ix hu) (p_name (pv 0)) p_int) p_int))))))) (ss_one (s_ret (e_pure p_bl))) ss_nil)
    (ss_cons (s_if (et_pure (t_not (t_val (p_isi (n := "tuple") (by rfl) T.n_isinstance (p_ix (d_ix hu) (p_name (pv 0)) p_int) (pe_bltn (v := .ty "tuple") (u := .type "tuple") (by rfl) T.n_tuple (by decide +kernel) rfl))))) (ss_one (s_ret (e_pure p_bl))) ss_nil)
    (ss_one (s_ret (e_pure (p_callB (x := "all") (id := "all") (d_all rfl) (by rfl) T.n_all (by decide +kernel) (a_cons (p_lc rfl sc__law_is_bendable.nd (i_seq (p_ix (d_ix hu) (p_name (pv 0)) p_int)) (own := [(("lane" : Str), 1)]) (by exact ⟨rfl, by decide +kernel, by show ∀ p : Str × Nat, p ∈ _ → (["thing", "lane"] : List Str)[p.2]? = some p.1; decide +kernel, by show ∀ y : Str × NameKind, y ∈ _ → y.2 = NameKind.free → (defScope s__law_is_bendable).names.lookup y.1 = some .cell ∨ (defScope s__law_is_bendable).names.lookup y.1 = some .free; decide +kernel, by show ∀ y : Str × NameKind, y ∈ _ → y.2 = NameKind.local ∨ y.2 = NameKind.cell → y.1 ∈ ([(("lane" : Str), 1)] : List (Str × Nat)).map (·.1) ∨ y.1 ∉ (["thing", "lane"] : List Str); decide +kernel⟩) (fun _ _ _ _ _ => (b_name (pg_name (i := 1) sc__law_is_bendable.nd rfl (by first | exact .inl rfl | exact .inr rfl)))) (fun _ _ _ _ _ => ts_nil) (fun _ _ _ _ _ => (p_and (p_isi (n := "tuple") (by rfl) T.n_isinstance (p_name (pv 1)) (pe_bltn (v := .ty "tuple") (u := .type "tuple") (by rfl) T.n_tuple (by decide +kernel) rfl)) (p_one (p_cmp (d_eq hu) (p_callB (x := "len") (id := "len") d_len (by rfl) T.n_len (by decide +kernel) (a_cons (p_name (pv 1)) a_nil)) p_int))))) a_nil)))))))
theorem ok__law_is_bendable (T : Top K mg base) : FnOk P w K mg base (L2.CX P w) 3 T.a__law_is_bendable T.fd__law_is_bendable ["thing"] (PSp K m__law_is_bendable) :=
  fn_pure T.F__law_is_bendable sc__law_is_bendable (fun ds R Ex h => len__law_is_bendable h) (fun cdv A outer s H E hcd hr => d__law_is_bendable T cdv A outer s H E hcd hr) (fun ds R Ex vs hm hl => w__law_is_bendable hm hl)

theorem sc__law_lane_bent : FnScope ["bag", "many", "lane", "some"] ["bag", "many", "lane"] (defScope s__law_lane_bent) := ⟨rfl, rfl, rfl, by decide +kernel, rfl, by decide +kernel, by decide +kernel⟩
theorem d__law_lane_bent (T : Top K mg base) (cdv : Value) (A : Around) (outer : List Env) (s : Shared) (H : Hp) (E : XK) (hcd : cdv = T.fd__law_lane_bent.code) (hr : Room 7 (A.deeper (envOfC "_law_lane_bent" (defScope s__law_lane_bent) s.heap.objs.size T.a__law_lane_bent cdv))) :
    DSs (cxOf (L2.CX P w) P w K mg base ["bag", "many", "lane", "some"] "_law_lane_bent" (defScope s__law_lane_bent) T.a__law_lane_bent cdv A outer s H E) (W0 E) (defBody s__law_lane_bent) t__law_lane_bent := by
  have hu : (cxOf (L2.CX P w) P w K mg base ["bag", "many", "lane", "some"] "_law_lane_bent" (defScope s__law_lane_bent) T.a__law_lane_bent cdv A outer s H E).A.units + 65 < cLine := by have := hr.un; show (A.deeper (envOfC "_law_lane_bent" (defScope s__law_lane_bent) s.heap.objs.size T.a__law_lane_bent cdv)).units + 65 < cLine; omega
  have tk : Takes (cxOf (L2.CX P w) P w K mg base ["bag", "many", "lane", "some"] "_law_lane_bent" (defScope s__law_lane_bent) T.a__law_lane_bent cdv A outer s H E) (W0 E) := takes_of rfl rfl rfl rfl
  exact (ss_cons (s_set (i := 3) sc__law_lane_bent.nd (e_pure (p_lst (a_cons (p_rev (p_name (pv 2))) (a_cons (p_tup (a_cons (p_ix (d_ix hu) (p_name (pv 2)) p_int) (a_cons (p_ix (d_ix hu) (p_name (pv 2)) p_int) a_nil))) (a_cons (p_tup (a_cons (p_ix (d_ix hu) (p_name (pv 2)) p_int) (a_cons (p_name (pv 1)) a_nil))) (a_cons (p_tup (a_cons (p_bin d_add (p_name (pv 1)) p_int) (a_cons (p_ix (d_ix hu) (p_name (pv 2)) p_int) a_nil))) (a_cons (p_tup (a_cons (p_ix (d_ix hu) (p_name (pv 2)) p_int) (a_cons (p_neg p_int) a_nil))) (a_cons (p_frz (p_callT (x := "list") (T := "list") (d_list rfl) (by rfl) T.n_list (by decide +kernel) (a_cons (p_name (pv 2)) a_nil))) a_nil)))))))))
    (ss_cons (s_set (i := 3) sc__law_lane_bent.nd (e_pure (p_bin d_add (p_name (pv 3)) (p_lst (a_cons (p_bin d_add (p_name (pv 2)) (p_tup (a_cons p_int a_nil))) (a_cons (p_slice (p_name (pv 2)) o_none (o_some p_int)) (a_cons (p_tup (a_cons p_bl (a_cons (p_ix (d_ix hu) (p_name (pv 2)) p_int) a_nil))) (a_cons (p_tup (a_cons (p_ix (d_ix hu) (p_name (pv 2)) p_int) (a_cons p_non a_nil))) (a_cons (p_tup (a_cons (p_callT (x := "str") (T := "str") (d_strL hu) (by rfl) T.n_str (by decide +kernel) (a_cons (p_ix (d_ix hu) (p_name (pv 2)) p_int) a_nil)) (a_cons (p_ix (d_ix hu) (p_name (pv 2)) p_int) a_nil))) (a_cons p_non a_nil))))))))))
    (ss_one (s_ret (e_ix (d_ix hu) (e_bin d_add (e_take (pv 3)) (e_lst (ea_cons (e_tup (ea_cons (e_pure (p_ix (d_ix hu) (p_name (pv 2)) p_int)) (ea_cons (e_call tk (ok__law_any T 5) (hr.mono (by decide)) (by rfl) T.g__law_any T.F__law_any.kp T.b__law_any (en_name (pv 0) (en_val (e_pure p_int) en_nil))) ea_nil))) (ea_cons (e_tup (ea_cons (e_call tk (ok__law_take T) (hr.mono (by decide)) (by rfl) T.g__law_take T.F__law_take.kp T.b__law_take (en_name (pv 0) (en_val (e_pure (p_name (pv 1))) en_nil))) (ea_cons (e_call tk (ok__law_take T) (hr.mono (by decide)) (by rfl) T.g__law_take T.F__law_take.kp T.b__law_take (en_name (pv 0) (en_val (e_pure (p_name (pv 1))) en_nil))) ea_nil))) ea_nil)))) (e_call tk (ok__law_take T) (hr.mono (by decide)) (by rfl) T.g__law_take T.F__law_take.kp T.b__law_take (en_name (pv 0) (en_val (e_pure p_int) en_nil))))))))
theorem ok__law_lane_bent (T : Top K mg base) : FnOk P w K mg base (L2.CX P w) 8 T.a__law_lane_bent T.fd__law_lane_bent ["bag", "many", "lane"] (ESp K 3 m__law_lane_bent) :=
  fn_eff T.F__law_lane_bent sc__law_lane_bent (fun cdv A outer s H E hcd hr => d__law_lane_bent T cdv A outer s H E hcd hr) (fun ds R Ex vs hm h1 h2 => w__law_lane_bent hm h1 h2)

theorem sc__law_bent : FnScope ["bag", "thing", "many", "lanes", "way", "at"] ["bag", "thing"] (defScope s__law_bent) := ⟨rfl, rfl, rfl, by decide +kernel, rfl, by decide +kernel, by decide +kernel⟩
theorem d__law_bent (T : Top K mg base) (cdv : Value) (A : Around) (outer : List Env) (s : Shared) (H : Hp) (E : XK) (hcd : cdv = T.fd__law_bent.code) (hr : Room 8 (A.deeper (envOfC "_law_bent" (defScope s__law_bent) s.heap.objs.size T.a__law_bent cdv))) :
    DSs (cxOf (L2.CX P w) P w K mg base ["bag", "thing", "many", "lanes", "way", "at"] "_law_bent" (defScope s__law_bent) T.a__law_bent cdv A outer s H E) (W0 E) (defBody s__law_bent) t__law_bent := by
  have hu : (cxOf (L2.CX P w) P w K mg base ["bag", "thing", "many", "lanes", "way", "at"] "_law_bent" (defScope s__law_bent) T.a__law_bent cdv A outer s H E).A.units + 65 < cLine := by have := hr.un; show (A.deeper (envOfC "_law_bent" (defScope s__law_bent) s.heap.objs.size T.a__law_bent cdv)).units + 65 < cLine; omega
  have tk : Takes (cxOf (L2.CX P w) P w K mg base ["bag", "thing", "many", "lanes", "way", "at"] "_law_bent" (defScope s__law_bent) T.a__law_bent cdv A outer s H E) (W0 E) := takes_of rfl rfl rfl rfl
  exact (ss_cons (s_asg (k_name (pv 1)) (g_tup rfl (g_cons (g_name (i := 2) sc__law_bent.nd) (g_cons (g_name (i := 3) sc__law_bent.nd) g_nil))))
    (ss_cons (s_set (i := 4) sc__law_bent.nd (e_call tk (ok__law_take T) (hr.mono (by decide)) (by rfl) T.g__law_take T.F__law_take.kp T.b__law_take (en_name (pv 0) (en_val (e_pure p_int) en_nil))))
    (ss_cons (s_set (i := 5) sc__law_bent.nd (e_call tk (ok__law_take T) (hr.mono (by decide)) (by rfl) T.g__law_take T.F__law_take.kp T.b__law_take (en_name (pv 0) (en_val (e_pure (p_callB (x := "max") (id := "max") (d_max2 rfl) (by rfl) T.n_max (by decide +kernel) (a_cons p_int (a_cons (p_callB (x := "len") (id := "len") d_len (by rfl) T.n_len (by decide +kernel) (a_cons (p_name (pv 3)) a_nil)) a_nil)))) en_nil))))
    (ss_cons (s_if (et_pure (t_cmp (d_eq hu) (p_name (pv 4)) p_int)) (ss_one (s_ret (e_tup (ea_cons (e_ixO (e_lst (ea_cons (e_pure (p_bin d_add (p_name (pv 2)) p_int)) (ea_cons (e_pure (p_bin d_sub (p_name (pv 2)) p_int)) (ea_cons (e_pure p_int) (ea_cons (e_pure p_int) (ea_cons (e_pure p_bl) (ea_cons (e_pure p_non) (ea_cons (e_call tk (ok__law_any T 5) (hr.mono (by decide)) (by rfl) T.g__law_any T.F__law_any.kp T.b__law_any (en_name (pv 0) (en_val (e_pure p_int) en_nil))) ea_nil)))))))) (e_call tk (ok__law_take T) (hr.mono (by decide)) (by rfl) T.g__law_take T.F__law_take.kp T.b__law_take (en_name (pv 0) (en_val (e_pure p_int) en_nil)))) (ea_cons (e_pure (p_name (pv 3))) ea_nil))))) ss_nil)
    (ss_cons (s_if (et_pure (t_w (w_or (t_cmp (d_eq hu) (p_name (pv 4)) p_int) (w_or1 (t_cmp (d_eq hu) (p_name (pv 3)) (p_tup a_nil)))))) (ss_one (s_ret (e_ixO (e_pure (p_lst (a_cons (p_tup (a_cons (p_name (pv 2)) (a_cons (p_frz (p_callT (x := "list") (T := "list") (d_list rfl) (by rfl) T.n_list (by decide +kernel) (a_cons (p_name (pv 3)) a_nil))) a_nil))) (a_cons (p_frz (p_lst (a_cons (p_name (pv 2)) (a_cons (p_name (pv 3)) a_nil)))) (a_cons (p_tup (a_cons (p_name (pv 2)) a_nil)) (a_cons (p_tup (a_cons (p_name (pv 2)) (a_cons (p_name (pv 3)) (a_cons (p_tup a_nil) a_nil)))) (a_cons (p_tup (a_cons (p_name (pv 3)) (a_cons (p_name (pv 2)) a_nil))) a_nil))))))) (e_call tk (ok__law_take T) (hr.mono (by decide)) (by rfl) T.g__law_take T.F__law_take.kp T.b__law_take (en_name (pv 0) (en_val (e_pure p_int) en_nil)))))) ss_nil)
    (ss_cons (s_if (et_pure (t_cmp (d_eq hu) (p_name (pv 4)) p_int)) (ss_one (s_ret (e_pure (p_tup (a_cons (p_name (pv 2)) (a_cons (p_bin d_add (p_slice (p_name (pv 3)) o_none (o_some (p_name (pv 5)))) (p_slice (p_name (pv 3)) (o_some (p_bin d_add (p_name (pv 5)) p_int)) o_none)) a_nil)))))) ss_nil)
    (ss_cons (s_if (et_pure (t_cmp (d_eq hu) (p_name (pv 4)) p_int)) (ss_one (s_ret (e_pure (p_tup (a_cons (p_name (pv 2)) (a_cons (p_bin d_add (p_bin d_add (p_slice (p_name (pv 3)) o_none (o_some (p_name (pv 5)))) (p_slice (p_name (pv 3)) (o_some (p_name (pv 5))) (o_some (p_bin d_add (p_name (pv 5)) p_int)))) (p_slice (p_name (pv 3)) (o_some (p_name (pv 5))) o_none)) a_nil)))))) ss_nil)
    (ss_cons (s_if (et_pure (t_cmp (d_eq hu) (p_name (pv 4)) p_int)) (ss_one (s_ret (e_pure (p_tup (a_cons (p_name (pv 2)) (a_cons (p_bin d_add (p_bin d_add (p_slice (p_name (pv 3)) o_none (o_some (p_name (pv 5)))) (p_rev (p_slice (p_name (pv 3)) (o_some (p_name (pv 5))) (o_some (p_bin d_add (p_name (pv 5)) p_int))))) (p_slice (p_name (pv 3)) (o_some (p_bin d_add (p_name (pv 5)) p_int)) o_none)) a_nil)))))) ss_nil)
    (ss_one (s_ret (e_tup (ea_cons (e_pure (p_name (pv 2))) (ea_cons (e_bin d_add (e_bin d_add (e_pure (p_slice (p_name (pv 3)) o_none (o_some (p_name (pv 5))))) (e_tup (ea_cons (e_call tk (ok__law_lane_bent T) (hr.mono (by decide)) (by rfl) T.g__law_lane_bent T.F__law_lane_bent.kp T.b__law_lane_bent (en_name (pv 0) (en_val (e_pure (p_name (pv 2))) (en_val (e_pure (p_ix (d_ix hu) (p_name (pv 3)) (p_name (pv 5)))) en_nil)))) ea_nil))) (e_pure (p_slice (p_name (pv 3)) (o_some (p_bin d_add (p_name (pv 5)) p_int)) o_none))) ea_nil)))))))))))))
theorem ok__law_bent (T : Top K mg base) : FnOk P w K mg base (L2.CX P w) 9 T.a__law_bent T.fd__law_bent ["bag", "thing"] (ESp K 2 m__law_bent) :=
  fn_eff T.F__law_bent sc__law_bent (fun cdv A outer s H E hcd hr => d__law_bent T cdv A outer s H E hcd hr) (fun ds R Ex vs hm h1 h2 => w__law_bent hm h1 h2)

theorem sc_is_whole : FnScope ["thing"] ["thing"] (defScope s_is_whole) := ⟨rfl, rfl, rfl, by decide +kernel, rfl, by decide +kernel, by decide +kernel⟩
theorem d_is_whole (T : Top K mg base) (cdv : Value) (A : Around) (outer : List Env) (s : Shared) (H : Hp) (E : XK) (hcd : cdv = T.fd_is_whole.code) (hr : Room 1 (A.deeper (envOfC "is_whole" (defScope s_is_whole) s.heap.objs.size T.a_is_whole cdv))) :
    DSs (cxOf (L2.CX P w) P w K mg base ["thing"] "is_whole" (defScope s_is_whole) T.a_is_whole cdv A outer s H E) (W0 E) (defBody s_is_whole) t_is_whole := by
  have hu : (cxOf (L2.CX P w) P w K mg base ["thing"] "is_whole" (defScope s_is_whole) T.a_is_whole cdv A outer s H E).A.units + 65 < cLine := by have := hr.un; show (A.deeper (envOfC "is_whole" (defScope s_is_whole) s.heap.objs.size T.a_is_whole cdv)).units + 65 < cLine; omega
  exact (ss_one (s_ret (e_pure (p_and (p_isi (n := "int") (by rfl) T.n_isinstance (p_name (pv 0)) (pe_bltn (v := .ty "int") (u := .type "int") (by rfl) T.n_int (by decide +kernel) rfl)) (p_one (p_not (p_isi (n := "bool") (by rfl) T.n_isinstance (p_name (pv 0)) (pe_bltn (v := .ty "bool") (u := .type "bool") (by rfl) T.n_bool (by decide +kernel) rfl))))))))
theorem ok_is_whole (T : Top K mg base) : FnOk P w K mg base (L2.CX P w) 2 T.a_is_whole T.fd_is_whole ["thing"] (PSp K m_is_whole) :=
  fn_pure T.F_is_whole sc_is_whole (fun ds R Ex h => len_is_whole h) (fun cdv A outer s H E hcd hr => d_is_whole T cdv A outer s H E hcd hr) (fun ds R Ex vs hm hl => w_is_whole hm hl)

theorem sc_is_place : FnScope ["thing", "many"] ["thing", "many"] (defScope s_is_place) := ⟨rfl, rfl, rfl, by decide +kernel, rfl, by decide +kernel, by decide +kernel⟩
theorem d_is_place (T : Top K mg base) (cdv : Value) (A : Around) (outer : List Env) (s : Shared) (H : Hp) (E : XK) (hcd : cdv = T.fd_is_place.code) (hr : Room 2 (A.deeper (envOfC "is_place" (defScope s_is_place) s.heap.objs.size T.a_is_place cdv))) :
    DSs (cxOf (L2.CX P w) P w K mg base ["thing", "many"] "is_place" (defScope s_is_place) T.a_is_place cdv A outer s H E) (W0 E) (defBody s_is_place) t_is_place := by
  have hu : (cxOf (L2.CX P w) P w K mg base ["thing", "many"] "is_place" (defScope s_is_place) T.a_is_place cdv A outer s H E).A.units + 65 < cLine := by have := hr.un; show (A.deeper (envOfC "is_place" (defScope s_is_place) s.heap.objs.size T.a_is_place cdv)).units + 65 < cLine; omega
  have tk : Takes (cxOf (L2.CX P w) P w K mg base ["thing", "many"] "is_place" (defScope s_is_place) T.a_is_place cdv A outer s H E) (W0 E) := takes_of rfl rfl rfl rfl
  exact (ss_one (s_ret (e_pure (p_and (p_callX tk (ok_is_whole T) (hr.mono (by decide)) (by rfl) T.g_is_whole T.F_is_whole.kp T.b_is_whole (a_cons (p_name (pv 0)) a_nil)) (p_one (p_chain d_le (d_lt hu) p_int (p_name (pv 0)) (p_name (pv 1))))))))
theorem ok_is_place (T : Top K mg base) : FnOk P w K mg base (L2.CX P w) 3 T.a_is_place T.fd_is_place ["thing", "many"] (PSp K m_is_place) :=
  fn_pure T.F_is_place sc_is_place (fun ds R Ex h => len_is_place h) (fun cdv A outer s H E hcd hr => d_is_place T cdv A outer s H E hcd hr) (fun ds R Ex vs hm hl => w_is_place hm hl)

theorem sc_is_lane : FnScope ["thing", "many"] ["thing", "many"] (defScope s_is_lane) := ⟨rfl, rfl, rfl, by decide +kernel, rfl, by decide +kernel, by decide +kernel⟩
theorem d_is_lane (T : Top K mg base) (cdv : Value) (A : Around) (outer : List Env) (s : Shared) (H : Hp) (E : XK) (hcd : cdv = T.fd_is_lane.code) (hr : Room 3 (A.deeper (envOfC "is_lane" (defScope s_is_lane) s.heap.objs.size T.a_is_lane cdv))) :
    DSs (cxOf (L2.CX P w) P w K mg base ["thing", "many"] "is_lane" (defScope s_is_lane) T.a_is_lane cdv A outer s H E) (W0 E) (defBody s_is_lane) t_is_lane := by
  have hu : (cxOf (L2.CX P w) P w K mg base ["thing", "many"] "is_lane" (defScope s_is_lane) T.a_is_lane cdv A outer s H E).A.units + 65 < cLine := by have := hr.un; show (A.deeper (envOfC "is_lane" (defScope s_is_lane) s.heap.objs.size T.a_is_lane cdv)).units + 65 < cLine; omega
  have tk : Takes (cxOf (L2.CX P w) P w K mg base ["thing", "many"] "is_lane" (defScope s_is_lane) T.a_is_lane cdv A outer s H E) (W0 E) := takes_of rfl rfl rfl rfl
  exact (ss_cons (s_if (et_pure (t_w (w_or (t_not (t_val (p_isi (n := "tuple") (by rfl) T.n_isinstance (p_name (pv 0)) (pe_bltn (v := .ty "tuple") (u := .type "tuple") (by rfl) T.n_tuple (by decide +kernel) rfl)))) (w_or1 (t_cmp (d_ne hu) (p_callB (x := "len") (id := "len") d_len (by rfl) T.n_len (by decide +kernel) (a_cons (p_name (pv 0)) a_nil)) p_int))))) (ss_one (s_ret (e_pure p_bl))) ss_nil)
    (ss_one (s_ret (e_pure (p_and (p_callX tk (ok_is_place T) (hr.mono (by decide)) (by rfl) T.g_is_place T.F_is_place.kp T.b_is_place (a_cons (p_ix (d_ix hu) (p_name (pv 0)) p_int) (a_cons (p_name (pv 1)) a_nil))) (p_and (p_callX tk (ok_is_place T) (hr.mono (by decide)) (by rfl) T.g_is_place T.F_is_place.kp T.b_is_place (a_cons (p_ix (d_ix hu) (p_name (pv 0)) p_int) (a_cons (p_name (pv 1)) a_nil))) (p_one (p_cmp (d_ne hu) (p_ix (d_ix hu) (p_name (pv 0)) p_int) (p_ix (d_ix hu) (p_name (pv 0)) p_int)))))))))
theorem ok_is_lane (T : Top K mg base) : FnOk P w K mg base (L2.CX P w) 4 T.a_is_lane T.fd_is_lane ["thing", "many"] (PSp K m_is_lane) :=
  fn_pure T.F_is_lane sc_is_lane (fun ds R Ex h => len_is_lane h) (fun cdv A outer s H E hcd hr => d_is_lane T cdv A outer s H E hcd hr) (fun ds R Ex vs hm hl => w_is_lane hm hl)

theorem sc_is_net : FnScope ["thing", "many", "lanes", "lane", "k"] ["thing"] (defScope s_is_net) := ⟨rfl, rfl, rfl, by decide +kernel, rfl, by decide +kernel, by decide +kernel⟩
theorem d_is_net (T : Top K mg base) (cdv : Value) (A : Around) (outer : List Env) (s : Shared) (H : Hp) (E : XK) (hcd : cdv = T.fd_is_net.code) (hr : Room 4 (A.deeper (envOfC "is_net" (defScope s_is_net) s.heap.objs.size T.a_is_net cdv))) :
    DSs (cxOf (L2.CX P w) P w K mg base ["thing", "many", "lanes", "lane", "k"] "is_net" (defScope s_is_net) T.a_is_net cdv A outer s H E) (W0 E) (defBody s_is_net) t_is_net := by
  have hu : (cxOf (L2.CX P w) P w K mg base ["thing", "many", "lanes", "lane", "k"] "is_net" (defScope s_is_net) T.a_is_net cdv A outer s H E).A.units + 65 < cLine := by have := hr.un; show (A.deeper (envOfC "is_net" (defScope s_is_net) s.heap.objs.size T.a_is_net cdv)).units + 65 < cLine; omega
  have tk : Takes (cxOf (L2.CX P w) P w K mg base ["thing", "many", "lanes", "lane", "k"] "is_net" (defScope s_is_net) T.a_is_net cdv A outer s H E) (W0 E) := takes_of rfl rfl rfl rfl
  exact (ss_cons (s_if (et_pure (t_w (w_or (t_not (t_val (p_isi (n := "tuple") (by rfl) T.n_isinstance (p_name (pv 0)) (pe_bltn (v := .ty "tuple") (u := .type "tuple") (by rfl) T.n_tuple (by decide +kernel) rfl)))) (w_or (t_cmp (d_ne hu) (p_callB (x := "len") (id := "len") d_len (by rfl) T.n_len (by decide +kernel) (a_cons (p_name (pv 0)) a_nil)) p_int) (w_or (t_not (t_val (p_callX tk (ok_is_whole T) (hr.mono (by decide)) (by rfl) T.g_is_whole T.F_is_whole.kp T.b_is_whole (a_cons (p_ix (d_ix hu) (p_name (pv 0)) p_int) a_nil)))) (w_or1 (t_not (t_val (p_isi (n := "tuple") (by rfl) T.n_isinstance (p_ix (d_ix hu) (p_name (pv 0)) p_int) (pe_bltn (v := .ty "tuple") (u := .type "tuple") (by rfl) T.n_tuple (by decide +kernel) rfl)))))))))) (ss_one (s_ret (e_pure p_bl))) ss_nil)
    (ss_cons (s_asg (k_name (pv 0)) (g_tup rfl (g_cons (g_name (i := 1) sc_is_net.nd) (g_cons (g_name (i := 2) sc_is_net.nd) g_nil))))
    (ss_cons (s_if (et_pure (t_w (w_or (t_cmp (d_lt hu) (p_name (pv 1)) p_int) (w_or (t_cmp d_gt (p_name (pv 1)) (p_globI (by rfl) T.c_MOST_PLACES)) (w_or1 (t_cmp d_gt (p_callB (x := "len") (id := "len") d_len (by rfl) T.n_len (by decide +kernel) (a_cons (p_name (pv 2)) a_nil)) (p_globI (by rfl) T.c_MOST_LANES))))))) (ss_one (s_ret (e_pure p_bl))) ss_nil)
    (ss_cons (s_if (et_pure (t_not (t_val (p_callB (x := "all") (id := "all") (d_all rfl) (by rfl) T.n_all (by decide +kernel) (a_cons (p_lc rfl sc_is_net.nd (i_seq (p_name (pv 2))) (own := [(("lane" : Str), 3)]) (by exact ⟨rfl, by decide +kernel, by show ∀ p : Str × Nat, p ∈ _ → (["thing", "many", "lanes", "lane", "k"] : List Str)[p.2]? = some p.1; decide +kernel, by show ∀ y : Str × NameKind, y ∈ _ → y.2 = NameKind.free → (defScope s_is_net).names.lookup y.1 = some .cell ∨ (defScope s_is_net).names.lookup y.1 = some .free; decide +kernel, by show ∀ y : Str × NameKind, y ∈ _ → y.2 = NameKind.local ∨ y.2 = NameKind.cell → y.1 ∈ ([(("lane" : Str), 3)] : List (Str × Nat)).map (·.1) ∨ y.1 ∉ (["thing", "many", "lanes", "lane", "k"] : List Str); decide +kernel⟩) (fun _ _ _ _ _ => (b_name (pg_name (i := 3) sc_is_net.nd rfl (by first | exact .inl rfl | exact .inr rfl)))) (fun _ _ _ _ _ => ts_nil) (fun _ _ _ _ _ => (p_call (ok_is_lane T) (hr.mono (by decide)) (by rfl) T.g_is_lane T.F_is_lane.kp T.b_is_lane (a_cons (p_name (pv 3)) (a_cons (p_name (pv 1)) a_nil))))) a_nil))))) (ss_one (s_ret (e_pure p_bl))) ss_nil)
    (ss_one (s_ret (e_pure (p_callB (x := "all") (id := "all") (d_all rfl) (by rfl) T.n_all (by decide +kernel) (a_cons (p_lc rfl sc_is_net.nd (i_range1 (by rfl) T.n_range (a_cons (p_bin d_sub (p_callB (x := "len") (id := "len") d_len (by rfl) T.n_len (by decide +kernel) (a_cons (p_name (pv 2)) a_nil)) p_int) a_nil)) (own := [(("k" : Str), 4)]) (by exact ⟨rfl, by decide +kernel, by show ∀ p : Str × Nat, p ∈ _ → (["thing", "many", "lanes", "lane", "k"] : List Str)[p.2]? = some p.1; decide +kernel, by show ∀ y : Str × NameKind, y ∈ _ → y.2 = NameKind.free → (defScope s_is_net).names.lookup y.1 = some .cell ∨ (defScope s_is_net).names.lookup y.1 = some .free; decide +kernel, by show ∀ y : Str × NameKind, y ∈ _ → y.2 = NameKind.local ∨ y.2 = NameKind.cell → y.1 ∈ ([(("k" : Str), 4)] : List (Str × Nat)).map (·.1) ∨ y.1 ∉ (["thing", "many", "lanes", "lane", "k"] : List Str); decide +kernel⟩) (fun _ _ _ _ _ => (b_name (pg_name (i := 4) sc_is_net.nd rfl (by first | exact .inl rfl | exact .inr rfl)))) (fun _ _ _ _ _ => ts_nil) (fun _ _ _ _ _ => (p_cmp (d_lt hu) (p_ix (d_ix hu) (p_name (pv 2)) (p_name (pv 4))) (p_ix (d_ix hu) (p_name (pv 2)) (p_bin d_add (p_name (pv 4)) p_int))))) a_nil)))))))))
theorem ok_is_net (T : Top K mg base) : FnOk P w K mg base (L2.CX P w) 5 T.a_is_net T.fd_is_net ["thing"] (PSp K m_is_net) :=
  fn_pure T.F_is_net sc_is_net (fun ds R Ex h => len_is_net h) (fun cdv A outer s H E hcd hr => d_is_net T cdv A outer s H E hcd hr) (fun ds R Ex vs hm hl => w_is_net hm hl)

theorem sc__law_is_net : FnScope ["thing", "many", "lanes", "ahead", "lane"] ["thing"] (defScope s__law_is_net) := ⟨rfl, rfl, rfl, by decide +kernel, rfl, by decide +kernel, by decide +kernel⟩
theorem d__law_is_net (T : Top K mg base) (cdv : Value) (A : Around) (outer : List Env) (s : Shared) (H : Hp) (E : XK) (hcd : cdv = T.fd__law_is_net.code) (hr : Room 2 (A.deeper (envOfC "_law_is_net" (defScope s__law_is_net) s.heap.objs.size T.a__law_is_net cdv))) :
    DSs (cxOf (L2.CX P w) P w K mg base ["thing", "many", "lanes", "ahead", "lane"] "_law_is_net" (defScope s__law_is_net) T.a__law_is_net cdv A outer s H E) (W0 E) (defBody s__law_is_net) t__law_is_net := by
  have hu : (cxOf (L2.CX P w) P w K mg base ["thing", "many", "lanes", "ahead", "lane"] "_law_is_net" (defScope s__law_is_net) T.a__law_is_net cdv A outer s H E).A.units + 65 < cLine := by have := hr.un; show (A.deeper (envOfC "_law_is_net" (defScope s__law_is_net) s.heap.objs.size T.a__law_is_net cdv)).units + 65 < cLine; omega
  have tk : Takes (cxOf (L2.CX P w) P w K mg base ["thing", "many", "lanes", "ahead", "lane"] "_law_is_net" (defScope s__law_is_net) T.a__law_is_net cdv A outer s H E) (W0 E) := takes_of rfl rfl rfl rfl
  have hp : PassesOwn (model P w) (cxOf (L2.CX P w) P w K mg base ["thing", "many", "lanes", "ahead", "lane"] "_law_is_net" (defScope s__law_is_net) T.a__law_is_net cdv A outer s H E).A (cxOf (L2.CX P w) P w K mg base ["thing", "many", "lanes", "ahead", "lane"] "_law_is_net" (defScope s__law_is_net) T.a__law_is_net cdv A outer s H E).env (cxOf (L2.CX P w) P w K mg base ["thing", "many", "lanes", "ahead", "lane"] "_law_is_net" (defScope s__law_is_net) T.a__law_is_net cdv A outer s H E).xe := passes_of rfl
  exact (ss_cons (s_if (et_pure (t_w (w_or (t_not (t_val (p_isi (n := "tuple") (by rfl) T.n_isinstance (p_name (pv 0)) (pe_bltn (v := .ty "tuple") (u := .type "tuple") (by rfl) T.n_tuple (by decide +kernel) rfl)))) (w_or (t_cmp (d_ne hu) (p_callB (x := "len") (id := "len") d_len (by rfl) T.n_len (by decide +kernel) (a_cons (p_name (pv 0)) a_nil)) p_int) (w_or1 (t_not (t_val (p_callX tk (ok__law_whole T) (hr.mono (by decide)) (by rfl) T.g__law_whole T.F__law_whole.kp T.b__law_whole (a_cons (p_ix (d_ix hu) (p_name (pv 0)) p_int) a_nil))))))))) (ss_one (s_ret (e_pure p_bl))) ss_nil)
    (ss_cons (s_asg (k_name (pv 0)) (g_tup rfl (g_cons (g_name (i := 1) sc__law_is_net.nd) (g_cons (g_name (i := 2) sc__law_is_net.nd) g_nil))))
    (ss_cons (s_if (et_pure (t_w (w_or (t_not (t_chain d_le d_le p_int (p_name (pv 1)) p_int)) (w_or (t_not (t_val (p_isi (n := "tuple") (by rfl) T.n_isinstance (p_name (pv 2)) (pe_bltn (v := .ty "tuple") (u := .type "tuple") (by rfl) T.n_tuple (by decide +kernel) rfl)))) (w_or1 (t_cmp d_gt (p_callB (x := "len") (id := "len") d_len (by rfl) T.n_len (by decide +kernel) (a_cons (p_name (pv 2)) a_nil)) p_int)))))) (ss_one (s_ret (e_pure p_bl))) ss_nil)
    (ss_cons (s_set (i := 3) sc__law_is_net.nd (e_pure (p_tup (a_cons (p_neg p_int) (a_cons (p_neg p_int) a_nil)))))
    (ss_cons (s_for rfl hp (i_seqK (k_name (pv 2))) (g_name (i := 4) sc__law_is_net.nd) (ss_cons (s_if (et_pure (t_w (w_or (t_not (t_val (p_isi (n := "tuple") (by rfl) T.n_isinstance (p_name (pv 4)) (pe_bltn (v := .ty "tuple") (u := .type "tuple") (by rfl) T.n_tuple (by decide +kernel) rfl)))) (w_or (t_cmp (d_ne hu) (p_callB (x := "len") (id := "len") d_len (by rfl) T.n_len (by decide +kernel) (a_cons (p_name (pv 4)) a_nil)) p_int) (w_or (t_not (t_val (p_callX tk (ok__law_whole T) (hr.mono (by decide)) (by rfl) T.g__law_whole T.F__law_whole.kp T.b__law_whole (a_cons (p_ix (d_ix hu) (p_name (pv 4)) p_int) a_nil)))) (w_or1 (t_not (t_val (p_callX tk (ok__law_whole T) (hr.mono (by decide)) (by rfl) T.g__law_whole T.F__law_whole.kp T.b__law_whole (a_cons (p_ix (d_ix hu) (p_name (pv 4)) p_int) a_nil)))))))))) (ss_one (s_ret (e_pure p_bl))) ss_nil)
    (ss_cons (s_if (et_pure (t_w (w_or (t_cmp (d_lt hu) (p_callB (x := "min") (id := "min") (d_minT hu rfl) (by rfl) T.n_min (by decide +kernel) (a_cons (p_name (pv 4)) a_nil)) p_int) (w_or (t_cmp d_ge (p_callB (x := "max") (id := "max") (d_maxT hu rfl) (by rfl) T.n_max (by decide +kernel) (a_cons (p_name (pv 4)) a_nil)) (p_name (pv 1))) (w_or (t_cmp (d_eq hu) (p_ix (d_ix hu) (p_name (pv 4)) p_int) (p_ix (d_ix hu) (p_name (pv 4)) p_int)) (w_or1 (t_cmp (d_leT hu) (p_name (pv 4)) (p_name (pv 3))))))))) (ss_one (s_ret (e_pure p_bl))) ss_nil)
    (ss_one (s_set (i := 3) sc__law_is_net.nd (e_take (pv 4)))))))
    (ss_one (s_ret (e_pure p_bl))))))))
theorem ok__law_is_net (T : Top K mg base) : FnOk P w K mg base (L2.CX P w) 3 T.a__law_is_net T.fd__law_is_net ["thing"] (PSp K m__law_is_net) :=
  fn_pure T.F__law_is_net sc__law_is_net (fun ds R Ex h => len__law_is_net h) (fun cdv A outer s H E hcd hr => d__law_is_net T cdv A outer s H E hcd hr) (fun ds R Ex vs hm hl => w__law_is_net hm hl)

theorem sc_law : FnScope ["script", "cell", "bag", "bends", "thing", "turn", "found"] ["script"] (defScope s_law) := ⟨rfl, rfl, rfl, by decide +kernel, rfl, by decide +kernel, by decide +kernel⟩
theorem d_law (T : Top K mg base) (cdv : Value) (A : Around) (outer : List Env) (s : Shared) (H : Hp) (E : XK) (hcd : cdv = T.fd_law.code) (hr : Room 9 (A.deeper (envOfC "law" (defScope s_law) s.heap.objs.size T.a_law cdv))) :
    DSs (cxOf (L2.CX P w) P w K mg base ["script", "cell", "bag", "bends", "thing", "turn", "found"] "law" (defScope s_law) T.a_law cdv A outer s H E) (W0 E) (defBody s_law) t_law := by
  have hu : (cxOf (L2.CX P w) P w K mg base ["script", "cell", "bag", "bends", "thing", "turn", "found"] "law" (defScope s_law) T.a_law cdv A outer s H E).A.units + 65 < cLine := by have := hr.un; show (A.deeper (envOfC "law" (defScope s_law) s.heap.objs.size T.a_law cdv)).units + 65 < cLine; omega
  have tk : Takes (cxOf (L2.CX P w) P w K mg base ["script", "cell", "bag", "bends", "thing", "turn", "found"] "law" (defScope s_law) T.a_law cdv A outer s H E) (W0 E) := takes_of rfl rfl rfl rfl
  have hp : PassesOwn (model P w) (cxOf (L2.CX P w) P w K mg base ["script", "cell", "bag", "bends", "thing", "turn", "found"] "law" (defScope s_law) T.a_law cdv A outer s H E).A (cxOf (L2.CX P w) P w K mg base ["script", "cell", "bag", "bends", "thing", "turn", "found"] "law" (defScope s_law) T.a_law cdv A outer s H E).env (cxOf (L2.CX P w) P w K mg base ["script", "cell", "bag", "bends", "thing", "turn", "found"] "law" (defScope s_law) T.a_law cdv A outer s H E).xe := passes_of rfl
  exact (ss_cons (s_for rfl hp (i_seqK (k_own (e_pure (p_bin d_add (p_lst (a_cons (p_callX tk (ok__law_cell T) (hr.mono (by decide)) (by rfl) T.g__law_cell T.F__law_cell.kp T.b__law_cell (a_cons (p_name (pv 0)) (a_cons p_int a_nil))) a_nil)) (p_slice (p_name (pv 0)) (o_some p_int) (o_some p_int)))))) (g_name (i := 1) sc_law.nd) (ss_cons (s_set (i := 2) sc_law.nd (e_pure (p_callX tk (ok__law_well T) (hr.mono (by decide)) (by rfl) T.g__law_well T.F__law_well.kp T.b__law_well (a_cons (p_name (pv 1)) (a_cons p_int a_nil)))))
    (ss_cons (s_set (i := 3) sc_law.nd (e_ixO (e_pure (p_lst (a_cons p_int (a_cons p_int (a_cons p_int (a_cons p_int a_nil)))))) (e_call tk (ok__law_take T) (hr.mono (by decide)) (by rfl) T.g__law_take T.F__law_take.kp T.b__law_take (en_name (pv 2) (en_val (e_pure p_int) en_nil)))))
    (ss_cons (s_set (i := 4) sc_law.nd (e_ix (d_ix hu) (e_call tk (ok__law_net T) (hr.mono (by decide)) (by rfl) T.g__law_net T.F__law_net.kp T.b__law_net (en_name (pv 2) (en_val (e_pure p_int) en_nil))) (e_pure p_int)))
    (ss_cons (s_if (et_cmp (d_eq hu) (e_call tk (ok__law_take T) (hr.mono (by decide)) (by rfl) T.g__law_take T.F__law_take.kp T.b__law_take (en_name (pv 2) (en_val (e_pure p_int) en_nil))) (e_pure p_int)) (ss_one (s_set (i := 4) sc_law.nd (e_ixO (e_lst (ea_cons (e_call tk (ok__law_full T) (hr.mono (by decide)) (by rfl) T.g__law_full T.F__law_full.kp T.b__law_full (en_name (pv 2) en_nil)) (ea_cons (e_call tk (ok__law_any T 5) (hr.mono (by decide)) (by rfl) T.g__law_any T.F__law_any.kp T.b__law_any (en_name (pv 2) (en_val (e_pure p_int) en_nil))) ea_nil))) (e_call tk (ok__law_take T) (hr.mono (by decide)) (by rfl) T.g__law_take T.F__law_take.kp T.b__law_take (en_name (pv 2) (en_val (e_pure p_int) en_nil)))))) ss_nil)
    (ss_cons (s_for rfl hp (i_rg1 (by rfl) T.n_range (ea_cons (e_pure (p_name (pv 3))) ea_nil)) (g_name (i := 5) sc_law.nd) (ss_one (s_if (et_pure (t_val (p_callX tk (ok__law_is_bendable T) (hr.mono (by decide)) (by rfl) T.g__law_is_bendable T.F__law_is_bendable.kp T.b__law_is_bendable (a_cons (p_name (pv 4)) a_nil)))) (ss_one (s_set (i := 4) sc_law.nd (e_call tk (ok__law_bent T) (hr.mono (by decide)) (by rfl) T.g__law_bent T.F__law_bent.kp T.b__law_bent (en_name (pv 2) (en_val (e_pure (p_name (pv 4))) en_nil))))) ss_nil)))
    (ss_cons (s_set (i := 6) sc_law.nd (e_pure (p_callX tk (ok_is_net T) (hr.mono (by decide)) (by rfl) T.g_is_net T.F_is_net.kp T.b_is_net (a_cons (p_name (pv 4)) a_nil))))
    (ss_one (s_if (et_pure (t_w (w_or (t_not (t_val (p_isi (n := "bool") (by rfl) T.n_isinstance (p_name (pv 6)) (pe_bltn (v := .ty "bool") (u := .type "bool") (by rfl) T.n_bool (by decide +kernel) rfl)))) (w_or1 (t_cmp (d_ne hu) (p_name (pv 6)) (p_callX tk (ok__law_is_net T) (hr.mono (by decide)) (by rfl) T.g__law_is_net T.F__law_is_net.kp T.b__law_is_net (a_cons (p_name (pv 4)) a_nil))))))) (ss_one (s_ret (e_pure p_bl))) ss_nil)))))))))
    (ss_one (s_ret (e_pure p_bl))))
theorem ok_law (T : Top K mg base) : FnOk P w K mg base (L2.CX P w) 10 T.a_law T.fd_law ["script"] (PSp K m_law) :=
  fn_pure T.F_law sc_law (fun ds R Ex h => len_law h) (fun cdv A outer s H E hcd hr => d_law T cdv A outer s H E hcd hr) (fun ds R Ex vs hm hl => w_law hm hl)

end
theorem all_mk {P : Program} {w : World} {K : PySem.W.Frag} {h : Heap} {mg : Str → Option Value} {fa : Addr} (X : K.In h) (G : h.Ns mainGlobals mg) (hfa : mg "law" = some (.ref fa))
    {f__law_cell : Addr} {oc__law_cell : Value} {od__law_cell an__law_cell : Option Addr} {sl__law_cell : Array (Option Value)} {kV__law_cell dc__law_cell pm__law_cell cd__law_cell ct__law_cell : Value}
    {f__law_well : Addr} {oc__law_well : Value} {od__law_well an__law_well : Option Addr} {sl__law_well : Array (Option Value)} {kV__law_well dc__law_well pm__law_well cd__law_well ct__law_well : Value}
    {f__law_take : Addr} {oc__law_take : Value} {od__law_take an__law_take : Option Addr} {sl__law_take : Array (Option Value)} {kV__law_take dc__law_take pm__law_take cd__law_take ct__law_take : Value}
    {f__law_shuffled : Addr} {oc__law_shuffled : Value} {od__law_shuffled an__law_shuffled : Option Addr} {sl__law_shuffled : Array (Option Value)} {kV__law_shuffled dc__law_shuffled pm__law_shuffled cd__law_shuffled ct__law_shuffled : Value}
    {f__law_net : Addr} {oc__law_net : Value} {od__law_net an__law_net : Option Addr} {sl__law_net : Array (Option Value)} {kV__law_net dc__law_net pm__law_net cd__law_net ct__law_net : Value}
    {f__law_full : Addr} {oc__law_full : Value} {od__law_full an__law_full : Option Addr} {sl__law_full : Array (Option Value)} {kV__law_full dc__law_full pm__law_full cd__law_full ct__law_full : Value}
    {f__law_any : Addr} {oc__law_any : Value} {od__law_any an__law_any : Option Addr} {sl__law_any : Array (Option Value)} {kV__law_any dc__law_any pm__law_any cd__law_any ct__law_any : Value}
    {f__law_whole : Addr} {oc__law_whole : Value} {od__law_whole an__law_whole : Option Addr} {sl__law_whole : Array (Option Value)} {kV__law_whole dc__law_whole pm__law_whole cd__law_whole ct__law_whole : Value}
    {f__law_is_bendable : Addr} {oc__law_is_bendable : Value} {od__law_is_bendable an__law_is_bendable : Option Addr} {sl__law_is_bendable : Array (Option Value)} {kV__law_is_bendable dc__law_is_bendable pm__law_is_bendable cd__law_is_bendable ct__law_is_bendable : Value}
    {f__law_lane_bent : Addr} {oc__law_lane_bent : Value} {od__law_lane_bent an__law_lane_bent : Option Addr} {sl__law_lane_bent : Array (Option Value)} {kV__law_lane_bent dc__law_lane_bent pm__law_lane_bent cd__law_lane_bent ct__law_lane_bent : Value}
    {f__law_bent : Addr} {oc__law_bent : Value} {od__law_bent an__law_bent : Option Addr} {sl__law_bent : Array (Option Value)} {kV__law_bent dc__law_bent pm__law_bent cd__law_bent ct__law_bent : Value}
    {f_is_whole : Addr} {oc_is_whole : Value} {od_is_whole an_is_whole : Option Addr} {sl_is_whole : Array (Option Value)} {kV_is_whole dc_is_whole pm_is_whole cd_is_whole ct_is_whole : Value}
    {f_is_place : Addr} {oc_is_place : Value} {od_is_place an_is_place : Option Addr} {sl_is_place : Array (Option Value)} {kV_is_place dc_is_place pm_is_place cd_is_place ct_is_place : Value}
    {f_is_lane : Addr} {oc_is_lane : Value} {od_is_lane an_is_lane : Option Addr} {sl_is_lane : Array (Option Value)} {kV_is_lane dc_is_lane pm_is_lane cd_is_lane ct_is_lane : Value}
    {f_is_net : Addr} {oc_is_net : Value} {od_is_net an_is_net : Option Addr} {sl_is_net : Array (Option Value)} {kV_is_net dc_is_net pm_is_net cd_is_net ct_is_net : Value}
    {f__law_is_net : Addr} {oc__law_is_net : Value} {od__law_is_net an__law_is_net : Option Addr} {sl__law_is_net : Array (Option Value)} {kV__law_is_net dc__law_is_net pm__law_is_net cd__law_is_net ct__law_is_net : Value}
    {f_law : Addr} {oc_law : Value} {od_law an_law : Option Addr} {sl_law : Array (Option Value)} {kV_law dc_law pm_law cd_law ct_law : Value}
    {t_MOST_LANES : Tok}
    {t_MOST_PLACES : Tok}
    (a__law_cell : PySem.W.nsIn K mainGlobals "_law_cell" = some (some (.ref f__law_cell)))
    (l__law_cell : K.lookup f__law_cell = some ⟨oc__law_cell, od__law_cell, .func (PySem.W.fnOf "_law_cell" "_law_cell" (defArgs s__law_cell) (defBody s__law_cell) (defScope s__law_cell) .none kV__law_cell dc__law_cell pm__law_cell an__law_cell cd__law_cell ct__law_cell), sl__law_cell⟩)
    (c__law_cell : PySem.W.codeIn K cd__law_cell "_law_cell" = true) (k__law_cell : PySem.W.keepIn K (.ref f__law_cell) = true)
    (a__law_well : PySem.W.nsIn K mainGlobals "_law_well" = some (some (.ref f__law_well)))
    (l__law_well : K.lookup f__law_well = some ⟨oc__law_well, od__law_well, .func (PySem.W.fnOf "_law_well" "_law_well" (defArgs s__law_well) (defBody s__law_well) (defScope s__law_well) .none kV__law_well dc__law_well pm__law_well an__law_well cd__law_well ct__law_well), sl__law_well⟩)
    (c__law_well : PySem.W.codeIn K cd__law_well "_law_well" = true) (k__law_well : PySem.W.keepIn K (.ref f__law_well) = true)
    (a__law_take : PySem.W.nsIn K mainGlobals "_law_take" = some (some (.ref f__law_take)))
    (l__law_take : K.lookup f__law_take = some ⟨oc__law_take, od__law_take, .func (PySem.W.fnOf "_law_take" "_law_take" (defArgs s__law_take) (defBody s__law_take) (defScope s__law_take) .none kV__law_take dc__law_take pm__law_take an__law_take cd__law_take ct__law_take), sl__law_take⟩)
    (c__law_take : PySem.W.codeIn K cd__law_take "_law_take" = true) (k__law_take : PySem.W.keepIn K (.ref f__law_take) = true)
    (a__law_shuffled : PySem.W.nsIn K mainGlobals "_law_shuffled" = some (some (.ref f__law_shuffled)))
    (l__law_shuffled : K.lookup f__law_shuffled = some ⟨oc__law_shuffled, od__law_shuffled, .func (PySem.W.fnOf "_law_shuffled" "_law_shuffled" (defArgs s__law_shuffled) (defBody s__law_shuffled) (defScope s__law_shuffled) .none kV__law_shuffled dc__law_shuffled pm__law_shuffled an__law_shuffled cd__law_shuffled ct__law_shuffled), sl__law_shuffled⟩)
    (c__law_shuffled : PySem.W.codeIn K cd__law_shuffled "_law_shuffled" = true) (k__law_shuffled : PySem.W.keepIn K (.ref f__law_shuffled) = true)
    (a__law_net : PySem.W.nsIn K mainGlobals "_law_net" = some (some (.ref f__law_net)))
    (l__law_net : K.lookup f__law_net = some ⟨oc__law_net, od__law_net, .func (PySem.W.fnOf "_law_net" "_law_net" (defArgs s__law_net) (defBody s__law_net) (defScope s__law_net) .none kV__law_net dc__law_net pm__law_net an__law_net cd__law_net ct__law_net), sl__law_net⟩)
    (c__law_net : PySem.W.codeIn K cd__law_net "_law_net" = true) (k__law_net : PySem.W.keepIn K (.ref f__law_net) = true)
    (a__law_full : PySem.W.nsIn K mainGlobals "_law_full" = some (some (.ref f__law_full)))
    (l__law_full : K.lookup f__law_full = some ⟨oc__law_full, od__law_full, .func (PySem.W.fnOf "_law_full" "_law_full" (defArgs s__law_full) (defBody s__law_full) (defScope s__law_full) .none kV__law_full dc__law_full pm__law_full an__law_full cd__law_full ct__law_full), sl__law_full⟩)
    (c__law_full : PySem.W.codeIn K cd__law_full "_law_full" = true) (k__law_full : PySem.W.keepIn K (.ref f__law_full) = true)
    (a__law_any : PySem.W.nsIn K mainGlobals "_law_any" = some (some (.ref f__law_any)))
    (l__law_any : K.lookup f__law_any = some ⟨oc__law_any, od__law_any, .func (PySem.W.fnOf "_law_any" "_law_any" (defArgs s__law_any) (defBody s__law_any) (defScope s__law_any) .none kV__law_any dc__law_any pm__law_any an__law_any cd__law_any ct__law_any), sl__law_any⟩)
    (c__law_any : PySem.W.codeIn K cd__law_any "_law_any" = true) (k__law_any : PySem.W.keepIn K (.ref f__law_any) = true)
    (a__law_whole : PySem.W.nsIn K mainGlobals "_law_whole" = some (some (.ref f__law_whole)))
    (l__law_whole : K.lookup f__law_whole = some ⟨oc__law_whole, od__law_whole, .func (PySem.W.fnOf "_law_whole" "_law_whole" (defArgs s__law_whole) (defBody s__law_whole) (defScope s__law_whole) .none kV__law_whole dc__law_whole pm__law_whole an__law_whole cd__law_whole ct__law_whole), sl__law_whole⟩)
    (c__law_whole : PySem.W.codeIn K cd__law_whole "_law_whole" = true) (k__law_whole : PySem.W.keepIn K (.ref f__law_whole) = true)
    (a__law_is_bendable : PySem.W.nsIn K mainGlobals "_law_is_bendable" = some (some (.ref f__law_is_bendable)))
    (l__law_is_bendable : K.lookup f__law_is_bendable = some ⟨oc__law_is_bendable, od__law_is_bendable, .func (PySem.W.fnOf "_law_is_bendable" "_law_is_bendable" (defArgs s__law_is_bendable) (defBody s__law_is_bendable) (defScope s__law_is_bendable) .none kV__law_is_bendable dc__law_is_bendable pm__law_is_bendable an__law_is_bendable cd__law_is_bendable ct__law_is_bendable), sl__law_is_bendable⟩)
    (c__law_is_bendable : PySem.W.codeIn K cd__law_is_bendable "_law_is_bendable" = true) (k__law_is_bendable : PySem.W.keepIn K (.ref f__law_is_bendable) = true)
    (a__law_lane_bent : PySem.W.nsIn K mainGlobals "_law_lane_bent" = some (some (.ref f__law_lane_bent)))
    (l__law_lane_bent : K.lookup f__law_lane_bent = some ⟨oc__law_lane_bent, od__law_lane_bent, .func (PySem.W.fnOf "_law_lane_bent" "_law_lane_bent" (defArgs s__law_lane_bent) (defBody s__law_lane_bent) (defScope s__law_lane_bent) .none kV__law_lane_bent dc__law_lane_bent pm__law_lane_bent an__law_lane_bent cd__law_lane_bent ct__law_lane_bent), sl__law_lane_bent⟩)
    (c__law_lane_bent : PySem.W.codeIn K cd__law_lane_bent "_law_lane_bent" = true) (k__law_lane_bent : PySem.W.keepIn K (.ref f__law_lane_bent) = true)
    (a__law_bent : PySem.W.nsIn K mainGlobals "_law_bent" = some (some (.ref f__law_bent)))
    (l__law_bent : K.lookup f__law_bent = some ⟨oc__law_bent, od__law_bent, .func (PySem.W.fnOf "_law_bent" "_law_bent" (defArgs s__law_bent) (defBody s__law_bent) (defScope s__law_bent) .none kV__law_bent dc__law_bent pm__law_bent an__law_bent cd__law_bent ct__law_bent), sl__law_bent⟩)
    (c__law_bent : PySem.W.codeIn K cd__law_bent "_law_bent" = true) (k__law_bent : PySem.W.keepIn K (.ref f__law_bent) = true)
    (a_is_whole : PySem.W.nsIn K mainGlobals "is_whole" = some (some (.ref f_is_whole)))
    (l_is_whole : K.lookup f_is_whole = some ⟨oc_is_whole, od_is_whole, .func (PySem.W.fnOf "is_whole" "is_whole" (defArgs s_is_whole) (defBody s_is_whole) (defScope s_is_whole) .none kV_is_whole dc_is_whole pm_is_whole an_is_whole cd_is_whole ct_is_whole), sl_is_whole⟩)
    (c_is_whole : PySem.W.codeIn K cd_is_whole "is_whole" = true) (k_is_whole : PySem.W.keepIn K (.ref f_is_whole) = true)
    (a_is_place : PySem.W.nsIn K mainGlobals "is_place" = some (some (.ref f_is_place)))
    (l_is_place : K.lookup f_is_place = some ⟨oc_is_place, od_is_place, .func (PySem.W.fnOf "is_place" "is_place" (defArgs s_is_place) (defBody s_is_place) (defScope s_is_place) .none kV_is_place dc_is_place pm_is_place an_is_place cd_is_place ct_is_place), sl_is_place⟩)
    (c_is_place : PySem.W.codeIn K cd_is_place "is_place" = true) (k_is_place : PySem.W.keepIn K (.ref f_is_place) = true)
    (a_is_lane : PySem.W.nsIn K mainGlobals "is_lane" = some (some (.ref f_is_lane)))
    (l_is_lane : K.lookup f_is_lane = some ⟨oc_is_lane, od_is_lane, .func (PySem.W.fnOf "is_lane" "is_lane" (defArgs s_is_lane) (defBody s_is_lane) (defScope s_is_lane) .none kV_is_lane dc_is_lane pm_is_lane an_is_lane cd_is_lane ct_is_lane), sl_is_lane⟩)
    (c_is_lane : PySem.W.codeIn K cd_is_lane "is_lane" = true) (k_is_lane : PySem.W.keepIn K (.ref f_is_lane) = true)
    (a_is_net : PySem.W.nsIn K mainGlobals "is_net" = some (some (.ref f_is_net)))
    (l_is_net : K.lookup f_is_net = some ⟨oc_is_net, od_is_net, .func (PySem.W.fnOf "is_net" "is_net" (defArgs s_is_net) (defBody s_is_net) (defScope s_is_net) .none kV_is_net dc_is_net pm_is_net an_is_net cd_is_net ct_is_net), sl_is_net⟩)
    (c_is_net : PySem.W.codeIn K cd_is_net "is_net" = true) (k_is_net : PySem.W.keepIn K (.ref f_is_net) = true)
    (a__law_is_net : PySem.W.nsIn K mainGlobals "_law_is_net" = some (some (.ref f__law_is_net)))
    (l__law_is_net : K.lookup f__law_is_net = some ⟨oc__law_is_net, od__law_is_net, .func (PySem.W.fnOf "_law_is_net" "_law_is_net" (defArgs s__law_is_net) (defBody s__law_is_net) (defScope s__law_is_net) .none kV__law_is_net dc__law_is_net pm__law_is_net an__law_is_net cd__law_is_net ct__law_is_net), sl__law_is_net⟩)
    (c__law_is_net : PySem.W.codeIn K cd__law_is_net "_law_is_net" = true) (k__law_is_net : PySem.W.keepIn K (.ref f__law_is_net) = true)
    (a_law : PySem.W.nsIn K mainGlobals "law" = some (some (.ref f_law)))
    (l_law : K.lookup f_law = some ⟨oc_law, od_law, .func (PySem.W.fnOf "law" "law" (defArgs s_law) (defBody s_law) (defScope s_law) .none kV_law dc_law pm_law an_law cd_law ct_law), sl_law⟩)
    (c_law : PySem.W.codeIn K cd_law "law" = true) (k_law : PySem.W.keepIn K (.ref f_law) = true)
    (z_all : PySem.W.nsIn K mainGlobals "all" = some none)
    (z_bool : PySem.W.nsIn K mainGlobals "bool" = some none)
    (z_int : PySem.W.nsIn K mainGlobals "int" = some none)
    (z_isinstance : PySem.W.nsIn K mainGlobals "isinstance" = some none)
    (z_len : PySem.W.nsIn K mainGlobals "len" = some none)
    (z_list : PySem.W.nsIn K mainGlobals "list" = some none)
    (z_max : PySem.W.nsIn K mainGlobals "max" = some none)
    (z_min : PySem.W.nsIn K mainGlobals "min" = some none)
    (z_range : PySem.W.nsIn K mainGlobals "range" = some none)
    (z_sorted : PySem.W.nsIn K mainGlobals "sorted" = some none)
    (z_str : PySem.W.nsIn K mainGlobals "str" = some none)
    (z_tuple : PySem.W.nsIn K mainGlobals "tuple" = some none)
    (y_MOST_LANES : PySem.W.nsIn K mainGlobals "MOST_LANES" = some (some (.int 120 t_MOST_LANES)))
    (y_MOST_PLACES : PySem.W.nsIn K mainGlobals "MOST_PLACES" = some (some (.int 24 t_MOST_PLACES)))
    : ∃ fd : FuncData, (∀ (s : Shared) (v : Value), BindsTo s fd ⟨[v], []⟩ [("script", v)]) ∧ ∀ base : Heap, K.In base → base.Ns mainGlobals mg → (∀ p ∈ lamCs K, LamX.TabB base mg p.1 p.2) → FnOk P w K mg base (L2.CX P w) 60 fa fd ["script"] (PSp K m_law) := by
  have e := hfa.symm.trans (PySem.W.mg_of X G a_law)
  cases e
  have F__law_cell := fun_mk (st := s__law_cell) l__law_cell c__law_cell k__law_cell
  have b__law_cell := F__law_cell.binds (ps := ["script", "k"]) fun _ _ _ _ _ _ us hl => match us, hl with | [_, _], _ => rfl
  have F__law_well := fun_mk (st := s__law_well) l__law_well c__law_well k__law_well
  have b__law_well := F__law_well.binds (ps := ["cell", "turn"]) fun _ _ _ _ _ _ us hl => match us, hl with | [_, _], _ => rfl
  have F__law_take := fun_mk (st := s__law_take) l__law_take c__law_take k__law_take
  have b__law_take := F__law_take.binds (ps := ["bag", "many"]) fun _ _ _ _ _ _ us hl => match us, hl with | [_, _], _ => rfl
  have F__law_shuffled := fun_mk (st := s__law_shuffled) l__law_shuffled c__law_shuffled k__law_shuffled
  have b__law_shuffled := F__law_shuffled.binds (ps := ["bag", "some"]) fun _ _ _ _ _ _ us hl => match us, hl with | [_, _], _ => rfl
  have F__law_net := fun_mk (st := s__law_net) l__law_net c__law_net k__law_net
  have b__law_net := F__law_net.binds (ps := ["bag", "most"]) fun _ _ _ _ _ _ us hl => match us, hl with | [_, _], _ => rfl
  have F__law_full := fun_mk (st := s__law_full) l__law_full c__law_full k__law_full
  have b__law_full := F__law_full.binds (ps := ["bag"]) fun _ _ _ _ _ _ us hl => match us, hl with | [_], _ => rfl
  have F__law_any := fun_mk (st := s__law_any) l__law_any c__law_any k__law_any
  have b__law_any := F__law_any.binds (ps := ["bag", "deep"]) fun _ _ _ _ _ _ us hl => match us, hl with | [_, _], _ => rfl
  have F__law_whole := fun_mk (st := s__law_whole) l__law_whole c__law_whole k__law_whole
  have b__law_whole := F__law_whole.binds (ps := ["thing"]) fun _ _ _ _ _ _ us hl => match us, hl with | [_], _ => rfl
  have F__law_is_bendable := fun_mk (st := s__law_is_bendable) l__law_is_bendable c__law_is_bendable k__law_is_bendable
  have b__law_is_bendable := F__law_is_bendable.binds (ps := ["thing"]) fun _ _ _ _ _ _ us hl => match us, hl with | [_], _ => rfl
  have F__law_lane_bent := fun_mk (st := s__law_lane_bent) l__law_lane_bent c__law_lane_bent k__law_lane_bent
  have b__law_lane_bent := F__law_lane_bent.binds (ps := ["bag", "many", "lane"]) fun _ _ _ _ _ _ us hl => match us, hl with | [_, _, _], _ => rfl
  have F__law_bent := fun_mk (st := s__law_bent) l__law_bent c__law_bent k__law_bent
  have b__law_bent := F__law_bent.binds (ps := ["bag", "thing"]) fun _ _ _ _ _ _ us hl => match us, hl with | [_, _], _ => rfl
  have F_is_whole := fun_mk (st := s_is_whole) l_is_whole c_is_whole k_is_whole
  have b_is_whole := F_is_whole.binds (ps := ["thing"]) fun _ _ _ _ _ _ us hl => match us, hl with | [_], _ => rfl
  have F_is_place := fun_mk (st := s_is_place) l_is_place c_is_place k_is_place
  have b_is_place := F_is_place.binds (ps := ["thing", "many"]) fun _ _ _ _ _ _ us hl => match us, hl with | [_, _], _ => rfl
  have F_is_lane := fun_mk (st := s_is_lane) l_is_lane c_is_lane k_is_lane
  have b_is_lane := F_is_lane.binds (ps := ["thing", "many"]) fun _ _ _ _ _ _ us hl => match us, hl with | [_, _], _ => rfl
  have F_is_net := fun_mk (st := s_is_net) l_is_net c_is_net k_is_net
  have b_is_net := F_is_net.binds (ps := ["thing"]) fun _ _ _ _ _ _ us hl => match us, hl with | [_], _ => rfl
  have F__law_is_net := fun_mk (st := s__law_is_net) l__law_is_net c__law_is_net k__law_is_net
  have b__law_is_net := F__law_is_net.binds (ps := ["thing"]) fun _ _ _ _ _ _ us hl => match us, hl with | [_], _ => rfl
  have F_law := fun_mk (st := s_law) l_law c_law k_law
  have b_law := F_law.binds (ps := ["script"]) fun _ _ _ _ _ _ us hl => match us, hl with | [_], _ => rfl
  refine ⟨fdOf F_law, fun s v => .of_eq rfl, fun base _ _ hTB => ?_⟩
  let T : Top K mg base := {
    a__law_cell := _, fd__law_cell := _, F__law_cell := F__law_cell, g__law_cell := PySem.W.mg_of X G a__law_cell, b__law_cell := b__law_cell,
    a__law_well := _, fd__law_well := _, F__law_well := F__law_well, g__law_well := PySem.W.mg_of X G a__law_well, b__law_well := b__law_well,
    a__law_take := _, fd__law_take := _, F__law_take := F__law_take, g__law_take := PySem.W.mg_of X G a__law_take, b__law_take := b__law_take,
    a__law_shuffled := _, fd__law_shuffled := _, F__law_shuffled := F__law_shuffled, g__law_shuffled := PySem.W.mg_of X G a__law_shuffled, b__law_shuffled := b__law_shuffled,
    a__law_net := _, fd__law_net := _, F__law_net := F__law_net, g__law_net := PySem.W.mg_of X G a__law_net, b__law_net := b__law_net,
    a__law_full := _, fd__law_full := _, F__law_full := F__law_full, g__law_full := PySem.W.mg_of X G a__law_full, b__law_full := b__law_full,
    a__law_any := _, fd__law_any := _, F__law_any := F__law_any, g__law_any := PySem.W.mg_of X G a__law_any, b__law_any := b__law_any,
    a__law_whole := _, fd__law_whole := _, F__law_whole := F__law_whole, g__law_whole := PySem.W.mg_of X G a__law_whole, b__law_whole := b__law_whole,
    a__law_is_bendable := _, fd__law_is_bendable := _, F__law_is_bendable := F__law_is_bendable, g__law_is_bendable := PySem.W.mg_of X G a__law_is_bendable, b__law_is_bendable := b__law_is_bendable,
    a__law_lane_bent := _, fd__law_lane_bent := _, F__law_lane_bent := F__law_lane_bent, g__law_lane_bent := PySem.W.mg_of X G a__law_lane_bent, b__law_lane_bent := b__law_lane_bent,
    a__law_bent := _, fd__law_bent := _, F__law_bent := F__law_bent, g__law_bent := PySem.W.mg_of X G a__law_bent, b__law_bent := b__law_bent,
    a_is_whole := _, fd_is_whole := _, F_is_whole := F_is_whole, g_is_whole := PySem.W.mg_of X G a_is_whole, b_is_whole := b_is_whole,
    a_is_place := _, fd_is_place := _, F_is_place := F_is_place, g_is_place := PySem.W.mg_of X G a_is_place, b_is_place := b_is_place,
    a_is_lane := _, fd_is_lane := _, F_is_lane := F_is_lane, g_is_lane := PySem.W.mg_of X G a_is_lane, b_is_lane := b_is_lane,
    a_is_net := _, fd_is_net := _, F_is_net := F_is_net, g_is_net := PySem.W.mg_of X G a_is_net, b_is_net := b_is_net,
    a__law_is_net := _, fd__law_is_net := _, F__law_is_net := F__law_is_net, g__law_is_net := PySem.W.mg_of X G a__law_is_net, b__law_is_net := b__law_is_net,
    a_law := _, fd_law := _, F_law := F_law, g_law := PySem.W.mg_of X G a_law, b_law := b_law,
    n_all := PySem.W.mg_none_of X G z_all,
    n_bool := PySem.W.mg_none_of X G z_bool,
    n_int := PySem.W.mg_none_of X G z_int,
    n_isinstance := PySem.W.mg_none_of X G z_isinstance,
    n_len := PySem.W.mg_none_of X G z_len,
    n_list := PySem.W.mg_none_of X G z_list,
    n_max := PySem.W.mg_none_of X G z_max,
    n_min := PySem.W.mg_none_of X G z_min,
    n_range := PySem.W.mg_none_of X G z_range,
    n_sorted := PySem.W.mg_none_of X G z_sorted,
    n_str := PySem.W.mg_none_of X G z_str,
    n_tuple := PySem.W.mg_none_of X G z_tuple,
    t_MOST_LANES := _, c_MOST_LANES := PySem.W.mg_of X G y_MOST_LANES,
    t_MOST_PLACES := _, c_MOST_PLACES := PySem.W.mg_of X G y_MOST_PLACES }
  exact (ok_law (P := P) (w := w) (base := base) T).mono (by decide)

end DL
open PySem PySem.W PyProof.Rows L2 in
set_option maxRecDepth 100000 in
set_option maxHeartbeats 0 in
theorem PySem.Challenge.cw_waymusts_k01_what_is_a_net_holds : PySem.Challenge.rw_waymusts_k01_what_is_a_net.Holds := by
  w_on; o_law; k_head; (case hw => w_witness2)
  k_fill
  refine DL.walk_tab (l := PySem.Challenge.rw_waymusts_k01_what_is_a_net) (n := 63) (k := 60) (m := DL.m_law) rfl (by decide) rfl ⟨rfl, by decide, by decide⟩ (fun w h Y => by first | exact PySem.W.kIn_of Y | exact PySem.W.km_in_of Y) ?A ?B (fun ns h b => DL.law_enter h b) ?F
  case A =>
    intro x hx
    simp only [DL.lamNames, List.mem_cons, List.not_mem_nil, or_false] at hx
    rcases hx with rfl | rfl | rfl | rfl | rfl | rfl | rfl
    · exact .inr (.inl fun w => (by kernel_rfl))
    · exact .inr (.inl fun w => (by kernel_rfl))
    · exact .inr (.inl fun w => (by kernel_rfl))
    · exact .inr (.inl fun w => (by kernel_rfl))
    · exact .inr (.inl fun w => (by kernel_rfl))
    · exact .inr (.inl fun w => (by kernel_rfl))
    · exact .inr (.inl fun w => (by kernel_rfl))
  case B =>
    intro w
    exact DL.all_none (by kernel_rfl)
  case F =>
    intro w mg fa h KX G hmg
    refine' DL.all_mk KX G hmg ?a__law_cell ?l__law_cell ?c__law_cell ?k__law_cell ?a__law_well ?l__law_well ?c__law_well ?k__law_well ?a__law_take ?l__law_take ?c__law_take ?k__law_take ?a__law_shuffled ?l__law_shuffled ?c__law_shuffled ?k__law_shuffled ?a__law_net ?l__law_net ?c__law_net ?k__law_net ?a__law_full ?l__law_full ?c__law_full ?k__law_full ?a__law_any ?l__law_any ?c__law_any ?k__law_any ?a__law_whole ?l__law_whole ?c__law_whole ?k__law_whole ?a__law_is_bendable ?l__law_is_bendable ?c__law_is_bendable ?k__law_is_bendable ?a__law_lane_bent ?l__law_lane_bent ?c__law_lane_bent ?k__law_lane_bent ?a__law_bent ?l__law_bent ?c__law_bent ?k__law_bent ?a_is_whole ?l_is_whole ?c_is_whole ?k_is_whole ?a_is_place ?l_is_place ?c_is_place ?k_is_place ?a_is_lane ?l_is_lane ?c_is_lane ?k_is_lane ?a_is_net ?l_is_net ?c_is_net ?k_is_net ?a__law_is_net ?l__law_is_net ?c__law_is_net ?k__law_is_net ?a_law ?l_law ?c_law ?k_law ?z_all ?z_bool ?z_int ?z_isinstance ?z_len ?z_list ?z_max ?z_min ?z_range ?z_sorted ?z_str ?z_tuple ?y_MOST_LANES ?y_MOST_PLACES
    (case a__law_cell => k_is)
    (case l__law_cell => k_is)
    (case c__law_cell => k_is)
    (case k__law_cell => k_is)
    (case a__law_well => k_is)
    (case l__law_well => k_is)
    (case c__law_well => k_is)
    (case k__law_well => k_is)
    (case a__law_take => k_is)
    (case l__law_take => k_is)
    (case c__law_take => k_is)
    (case k__law_take => k_is)
    (case a__law_shuffled => k_is)
    (case l__law_shuffled => k_is)
    (case c__law_shuffled => k_is)
    (case k__law_shuffled => k_is)
    (case a__law_net => k_is)
    (case l__law_net => k_is)
    (case c__law_net => k_is)
    (case k__law_net => k_is)
    (case a__law_full => k_is)
    (case l__law_full => k_is)
    (case c__law_full => k_is)
    (case k__law_full => k_is)
    (case a__law_any => k_is)
    (case l__law_any => k_is)
    (case c__law_any => k_is)
    (case k__law_any => k_is)
    (case a__law_whole => k_is)
    (case l__law_whole => k_is)
    (case c__law_whole => k_is)
    (case k__law_whole => k_is)
    (case a__law_is_bendable => k_is)
    (case l__law_is_bendable => k_is)
    (case c__law_is_bendable => k_is)
    (case k__law_is_bendable => k_is)
    (case a__law_lane_bent => k_is)
    (case l__law_lane_bent => k_is)
    (case c__law_lane_bent => k_is)
    (case k__law_lane_bent => k_is)
    (case a__law_bent => k_is)
    (case l__law_bent => k_is)
    (case c__law_bent => k_is)
    (case k__law_bent => k_is)
    (case a_is_whole => k_is)
    (case l_is_whole => k_is)
    (case c_is_whole => k_is)
    (case k_is_whole => k_is)
    (case a_is_place => k_is)
    (case l_is_place => k_is)
    (case c_is_place => k_is)
    (case k_is_place => k_is)
    (case a_is_lane => k_is)
    (case l_is_lane => k_is)
    (case c_is_lane => k_is)
    (case k_is_lane => k_is)
    (case a_is_net => k_is)
    (case l_is_net => k_is)
    (case c_is_net => k_is)
    (case k_is_net => k_is)
    (case a__law_is_net => k_is)
    (case l__law_is_net => k_is)
    (case c__law_is_net => k_is)
    (case k__law_is_net => k_is)
    (case a_law => k_is)
    (case l_law => k_is)
    (case c_law => k_is)
    (case k_law => k_is)
    (case z_all => k_is)
    (case z_bool => k_is)
    (case z_int => k_is)
    (case z_isinstance => k_is)
    (case z_len => k_is)
    (case z_list => k_is)
    (case z_max => k_is)
    (case z_min => k_is)
    (case z_range => k_is)
    (case z_sorted => k_is)
    (case z_str => k_is)
    (case z_tuple => k_is)
    (case y_MOST_LANES => k_is)
    (case y_MOST_PLACES => k_is)

