import PyProof.Rows.All
import Wide.All
import OpenK.AllK
import Wide.FinOn
import HandS.ForMost
import HandS.ForExc
import HandS.Conv
import HandS.TupAny
import HandS.Deep
import HandS.Style
import HandS.IsInst
import HandS.SortInts
import HandS.SortRule
import HandS.Walk
import HandS.DictComp
import HandS.CallSlots
import HandS.Defaults
import HandS.More
import HandS.Flow
import HandS.Wide
import HandS.Zip
import HandS.TupMul
import HandS.ListItems
import KE.SortData
import KE.DataMinMax
import PyProof.Claim2Refuses
import HandS.Words
import HandS.Head0
import HandS.Head1
import HandS.Head2
import HandS.HeadEnd
import HandS.HeadHook1
import HandS.HeadHook2
import PySem.Challenge.RW_anyenough_k67_whole_turns_of_many_neighb
import KE.KStateDown
set_option Elab.async false
set_option linter.all false
set_option maxRecDepth 100000
set_option maxHeartbeats 4000000
/-! Mini language: its syntax, its readings over the hand layer, and the check of a text against the row's own tree. -/
namespace MP
open PySem PySem.Spec PyProof.Rows L2

/-! ### syntax -/
inductive Lit where
  | non | bl (b : Bool) | int (i : Int) | str (x : Str)
  deriving DecidableEq
def Lit.v : Lit → V
  | .non => .non
  | .bl b => .bl b
  | .int i => .int i
  | .str x => .str x
def Lit.is : Lit → Const → Bool
  | .non, .none => true
  | .bl b, .bool c => b == c
  | .int i, .int j => i == j
  | .str x, .str y => decide (x = y)
  | _, _ => false
inductive Bop where
  | add | sub | mul | fdiv | mod | pow | shl | shr | band | bor | bxor
  deriving DecidableEq
def Bop.op : Bop → Operator
  | .add => .Add | .sub => .Sub | .mul => .Mult | .fdiv => .FloorDiv | .mod => .Mod | .pow => .Pow
  | .shl => .LShift | .shr => .RShift | .band => .BitAnd | .bor => .BitOr | .bxor => .BitXor
inductive Cop where
  | eq | ne | lt | le | gt | ge | isin | ntin | isB | ntB
  deriving DecidableEq
def Cop.op : Cop → CmpOp
  | .eq => .Eq | .ne => .NotEq | .lt => .Lt | .le => .LtE | .gt => .Gt | .ge => .GtE
  | .isin => .In | .ntin => .NotIn | .isB => .Is | .ntB => .IsNot
/-- built-in functions and classes that are called -/
inductive Bi where
  | len | sum | max | min | all | any | sorted | list | tuple | dict | int | isi | abs | max2 | min2
  deriving DecidableEq
/-- methods of built-in things -/
inductive Bm where
  | get1 | get2 | append | extend | items | pop1 | pop2 | popL | setdefault | index | remove
  deriving DecidableEq

mutual
inductive E where
  | var (i : Nat)
  | lit (l : Lit)
  | glb (k : Nat)
  | bty (n : String)
  | tup (es : Es)
  | lst (es : Es)
  | dsp (ps : Ps)
  | bin (op : Bop) (a b : E)
  | neg (a : E)
  | not (a : E)
  | andl (es : Es)
  | orl (es : Es)
  | ife (c a b : E)
  | cmp (op : Cop) (a b : E)
  | isN (a : E)
  | ntN (a : E)
  | idx (a i : E)
  | slc (a : E) (lo hi : O)
  | fld (c j : Nat) (a : E)
  | call (g : Nat) (es : Es)
  | meth (g : Nat) (o : E) (es : Es)
  | new (c : Nat) (es : Es) (fz : Bool)
  | bi (b : Bi) (es : Es)
  | bm (m : Bm) (o : E) (es : Es)
  | rng (tl : Bool) (a : E)
  | comp (e : E) (t : T) (it : I) (c : O) (own : List Nat)
inductive Es where
  | nil
  | cons (e : E) (r : Es)
inductive Ps where
  | nil
  | cons (k v : E) (r : Ps)
inductive O where
  | no
  | yes (e : E)
inductive I where
  | val (e : E)
  | rng1 (a : E)
  | rng2 (a b : E)
  | enum (e : E)
  | zip (a b : E)
inductive T where
  | name (i : Nat)
  | tup (ts : Ts)
inductive Ts where
  | nil
  | cons (t : T) (r : Ts)
end
def Es.len : Es → Nat
  | .nil => 0
  | .cons _ r => r.len + 1
def Ts.len : Ts → Nat
  | .nil => 0
  | .cons _ r => r.len + 1

/-! ### what is known of the text -/
structure FnI where
  /-- the name in the text (of a method: its own name) -/
  name : Str
  /-- the parameters -/
  ps : List Str
  /-- the class, of a method -/
  cls : Option Nat
structure ClsI where
  name : Str
  fields : List Str
  init : Nat
structure Tab where
  fns : List FnI
  clss : List ClsI
  cons : List Str
  free : List Str
def Tab.fn (Γ : Tab) (g : Nat) : FnI := Γ.fns.getD g ⟨"", [], none⟩
def Tab.cl (Γ : Tab) (c : Nat) : ClsI := Γ.clss.getD c ⟨"", [], 0⟩
def Tab.co (Γ : Tab) (k : Nat) : Str := Γ.cons.getD k ""
/-- the model's data -/
structure Mo where
  K : PySem.W.Frag
  con : Nat → V
  clsA : Nat → Addr
  fnA : Nat → Addr
  fd : Nat → FuncData
  cal : Nat → Sp
  /-- the defaults that fill up behind so many arguments -/
  dv : Nat → Nat → List V
end MP

set_option Elab.async false
set_option linter.all false
set_option maxRecDepth 100000
set_option maxHeartbeats 4000000
namespace MP
open PySem PySem.Spec PyProof.Rows L2

/-! ### rules joined -/
section
variable {X : Cx}
theorem OpR.or {f : Value → Value → Sem Value} {r q : R2} (h : OpR X f r) (k : OpR X f q) : OpR X f (fun x y H Q => r x y H Q ∨ q x y H Q) :=
  fun pins s σ H x y v u Q I rx ry z => z.elim (h pins s σ H x y v u Q I rx ry) (k pins s σ H x y v u Q I rx ry)
theorem CallR.or {f : Value} {r q : List V → Hp → VK → Prop} (h : CallR X f r) (k : CallR X f q) : CallR X f (fun vs H Q => r vs H Q ∨ q vs H Q) :=
  fun pins s σ H xs us Q I rx z => z.elim (h pins s σ H xs us Q I rx) (k pins s σ H xs us Q I rx)
theorem PE.or {e : Expr} {t u : TE} (h : PE X e t) (k : PE X e u) : PE X e (fun σ H Q => t σ H Q ∨ u σ H Q) :=
  ⟨fun pins s σ H Q I z => z.elim (h.run pins s σ H Q I) (k.run pins s σ H Q I)⟩
theorem PI.or {tg e : Expr} {t u : TI} (h : PI X tg e t) (k : PI X tg e u) : PI X tg e (fun σ H Q => t σ H Q ∨ u σ H Q) :=
  ⟨fun pins s σ H Q I z => z.elim (h.run pins s σ H Q I) (k.run pins s σ H Q I)⟩
theorem PS.or {e : Stmt} {t u : TS} (h : PS X e t) (k : PS X e u) : PS X e (fun D σ H => t D σ H ∨ u D σ H) :=
  ⟨fun pins s σ H D I z => z.elim (h.run pins s σ H D I) (k.run pins s σ H D I)⟩
theorem SlR.or {r q : V → Option Int → Option Int → Hp → VK → Prop} (h : SlR X r) (k : SlR X q) : SlR X (fun x a b H Q => r x a b H Q ∨ q x a b H Q) :=
  fun pins s σ H x v vl vu lo hi sl Q I rx hs pl pu z => z.elim (h pins s σ H x v vl vu lo hi sl Q I rx hs pl pu) (k pins s σ H x v vl vu lo hi sl Q I rx hs pl pu)
theorem PC.of {op : CmpOp} {r : R2} {a b : Expr} {ta tb : TE} (ho : OpR X (compareOp op) r) (ha : PE X a ta) (hb : PE X b tb) : PC X op a b (tOp r ta tb) :=
  ⟨fun pins s σ H Q I h => binT ha hb I h fun v u s2 x y H2 I2 rx ry q => ho pins s2 σ H2 x y v u Q I2 rx ry q⟩
def rNoOp : R2 := fun _ _ _ _ => False
theorem op_no {f : Value → Value → Sem Value} : OpR X f rNoOp := fun _ _ _ _ _ _ _ _ _ _ _ _ z => z.elim
def rNoCall : List V → Hp → VK → Prop := fun _ _ _ => False

/-! ### operators -/
def rBin (K : PySem.W.Frag) : Bop → R2
  | .add => fun x y H Q => rI0 (fun i j => .int (i + j)) x y H Q ∨ (rCatA K x y H Q ∨ (rCat x y H Q ∨ ∃ i j, x = V.str i ∧ y = V.str j ∧ i.length + j.length ≤ sizeLine ∧ Q (V.str (i ++ j)) H))
  | .sub => rI0 fun i j => .int (i - j)
  | .mul => fun x y H Q => rI CMul (fun i j => .int (i * j)) x y H Q ∨ rRep x y H Q
  | .fdiv => rI CDivN fun i j => .int (i.fdiv j)
  | .mod => rI (fun _ j => j ≠ 0) fun i j => .int (i.fmod j)
  | .pow => rI CPow fun i j => .int (i ^ j.toNat)
  | .shl => rI CPow fun i j => .int (i * 2 ^ j.toNat)
  | .shr => rI (fun _ j => 0 ≤ j) fun i j => .int (i / 2 ^ j.toNat)
  | .band => rI0 fun i j => .int (Builtin.bitAnd i j)
  | .bor => rI0 fun i j => .int (Builtin.bitOr i j)
  | .bxor => rI0 fun i j => .int (Builtin.bitXor i j)
theorem op_bin : ∀ op : Bop, OpR X (binaryOp op.op) (rBin X.K op)
  | .add => OpR.or op_add (OpR.or op_catA (OpR.or op_cat op_add_str))
  | .sub => op_sub
  | .mul => OpR.or op_mul op_rep
  | .fdiv => op_fdivN
  | .mod => op_modN
  | .pow => op_pow
  | .shl => op_shl
  | .shr => op_shr
  | .band => op_and
  | .bor => op_or
  | .bxor => op_xor

/-! ### comparisons -/
theorem op_inDict (hu : X.A.units + 1 < cLine) : OpR X (compareOp .In) (fun y x H Q => ∃ a o, x = .ref a ∧ DGet H a y o ∧ Q (.bl o.isSome) H) := by
  intro pins s σ H y x u v Q I ry rx h
  obtain ⟨a, o, rfl, g, q⟩ := h
  obtain rfl : v = Value.ref a := rx
  exact d_in hu I g ry fun s3 I3 => ⟨.bl o.isSome, H, I3, rfl, q⟩
theorem op_ntinDict (hu : X.A.units + 1 < cLine) : OpR X (compareOp .NotIn) (fun y x H Q => ∃ a o, x = .ref a ∧ DGet H a y o ∧ Q (.bl (!o.isSome)) H) := by
  intro pins s σ H y x u v Q I ry rx h
  obtain ⟨a, o, rfl, g, q⟩ := h
  obtain rfl : v = Value.ref a := rx
  exact d_notIn hu I g ry fun s3 I3 => ⟨.bl (!o.isSome), H, I3, rfl, q⟩
def rInT (K : PySem.W.Frag) : R2 := fun x y H Q => ∃ d ds, Dp K H x d ∧ Dp K H y (.tuple ds) ∧ SeqAt.shaped d = true ∧ SeqAt.shaped (.list ds) = true ∧ Q (.bl (ds.any fun z => PyData.eqv z d)) H
def rNotInT (K : PySem.W.Frag) : R2 := fun x y H Q => ∃ d ds, Dp K H x d ∧ Dp K H y (.tuple ds) ∧ SeqAt.shaped d = true ∧ SeqAt.shaped (.list ds) = true ∧ Q (.bl (!ds.any fun z => PyData.eqv z d)) H
theorem op_inT (hu : X.A.units + 65 < cLine) : OpR X (compareOp .In) (rInT X.K) := by
  intro pins s σ H x y v u Q I rx ry h
  obtain ⟨d, ds, hd, he, sd, se, q⟩ := h
  obtain ⟨as, r1⟩ := Dp.reads I d x v hd rx
  obtain ⟨bs, r2⟩ := Dp.reads I (.tuple ds) y u he ry
  exact SeqAt.in_tuple_reads r2 r1 (SeqAt.canLay_of_shaped se) (SeqAt.canLay_of_shaped sd) (room_in_shaped sd hu) ⟨.bl _, H, I, rfl, q⟩
theorem op_notInT (hu : X.A.units + 65 < cLine) : OpR X (compareOp .NotIn) (rNotInT X.K) := by
  intro pins s σ H x y v u Q I rx ry h
  obtain ⟨d, ds, hd, he, sd, se, q⟩ := h
  obtain ⟨as, r1⟩ := Dp.reads I d x v hd rx
  obtain ⟨bs, r2⟩ := Dp.reads I (.tuple ds) y u he ry
  exact SeqAt.notIn_tuple_reads r2 r1 (SeqAt.canLay_of_shaped se) (SeqAt.canLay_of_shaped sd) (room_in_shaped sd hu) ⟨.bl _, H, I, rfl, q⟩
def rCmp (K : PySem.W.Frag) : Cop → R2
  | .eq => rEqD K
  | .ne => rNeD K
  | .lt => rI0 fun i j => .bl (decide (i < j))
  | .le => rI0 fun i j => .bl (decide (i ≤ j))
  | .gt => rI0 fun i j => .bl (decide (i > j))
  | .ge => rI0 fun i j => .bl (decide (i ≥ j))
  | .isin => fun x y H Q => rInT K x y H Q ∨ (rInD K x y H Q ∨ ∃ a o, y = .ref a ∧ DGet H a x o ∧ Q (.bl o.isSome) H)
  | .ntin => fun x y H Q => rNotInT K x y H Q ∨ (rNotInD K x y H Q ∨ ∃ a o, y = .ref a ∧ DGet H a x o ∧ Q (.bl (!o.isSome)) H)
  | .isB => rIsB
  | .ntB => rNotB
theorem op_cmp (hu : X.A.units + 65 < cLine) : ∀ op : Cop, OpR X (compareOp op.op) (rCmp X.K op)
  | .eq => op_eqD (by omega)
  | .ne => op_neD (by omega)
  | .lt => op_lt
  | .le => op_le
  | .gt => op_gt
  | .ge => op_ge
  | .isin => OpR.or (op_inT hu) (OpR.or (op_inD hu) (op_inDict (by omega)))
  | .ntin => OpR.or (op_notInT hu) (OpR.or (op_notInD hu) (op_ntinDict (by omega)))
  | .isB => op_isBl
  | .ntB => op_notBl

/-! ### sorted, min, max of data -/
def srtV (xs : List V) (ds : List PyData) : List V := ((xs.zip ds).mergeSort (PySem.W.dataLe false Prod.snd)).map Prod.fst
def rSortD (K : PySem.W.Frag) : List V → Hp → VK → Prop := fun vs H Q => ∃ a xs ds, vs = [V.ref a] ∧ SqL K H a xs ∧ DpAll K H xs ds ∧ PySem.W.AllAlike ds ∧ PySem.W.Sortable ds ∧ (∀ d ∈ ds, d.depth ≤ 60) ∧
  ∀ p, H p = none → Q (.ref p) (upd H p (.lst (srtV xs ds)))
theorem DpAll.len {K : PySem.W.Frag} {H : Hp} : ∀ {xs : List V} {ds : List PyData}, DpAll K H xs ds → xs.length = ds.length
  | _, _, .nil => rfl
  | _, _, .cons _ t => by simp [DpAll.len t]
theorem each_zip {pins : List (Addr × Obj)} {σ : L2.St} {H : Hp} {s : Shared} (I : L2.Inv X pins σ H s) : ∀ {xs : List V} {ds : List PyData} {us : List Value}, DpAll X.K H xs ds → Vals xs us →
    PySem.W.EachIs (fun v (b : V × PyData) => RelV b.1 v) us (xs.zip ds) ∧ PySem.W.EachIs (fun v (b : V × PyData) => ∃ as, Reads s.heap v b.2 as) us (xs.zip ds)
  | _, _, _, .nil, .nil => ⟨.nil, .nil⟩
  | _, _, _, .cons h t, .cons r q => by
    obtain ⟨h1, h2⟩ := each_zip I t q
    exact ⟨.cons r h1, .cons (Dp.reads I _ _ _ h r) h2⟩
theorem zip_snd : ∀ {xs : List V} {ds : List PyData}, xs.length = ds.length → (xs.zip ds).map Prod.snd = ds
  | [], [], _ => rfl
  | _ :: xs, _ :: ds, h => by simp [zip_snd (xs := xs) (ds := ds) (by simpa using h)]
theorem each_vals : ∀ {us : List Value} {bs : List (V × PyData)}, PySem.W.EachIs (fun v (b : V × PyData) => RelV b.1 v) us bs → Vals (bs.map Prod.fst) us
  | _, _, .nil => .nil
  | _, _, .cons r t => .cons r (each_vals t)
theorem cr_sortD (hu : X.A.units + 65 < cLine) : CallR X (.builtin "sorted") (rSortD X.K) := by
  intro pins s σ H vs us Q I r h
  obtain ⟨a, xs, ds, rfl, hs, hd, hal, hso, hdp, q⟩ := h
  obtain ⟨its, rv, hl, hz⟩ := I.list hs
  obtain ⟨u, rfl, ru⟩ := L2.vals1 r
  obtain rfl : u = Value.ref a := ru
  obtain ⟨e1, e2⟩ := each_zip I hd rv
  have hlen := DpAll.len hd
  have hsnd := zip_snd hlen
  refine PySem.W.sorted_data (bs := xs.zip ds) (enc := Prod.snd) hl.isList e1 e2 (by rw [hsnd]; exact hal) (by rw [hsnd]; exact hso) (by rw [List.length_zip]; omega) (fun b hb => ?_) fun out ho hE => ?_
  · have hm : b.2 ∈ ds := by
      rw [← hsnd]
      exact List.mem_map_of_mem hb
    have := hdp _ hm
    omega
  · have hv := each_vals hE
    have hf : H s.heap.objs.size = none := I.hok.fresh (Nat.le_refl _)
    obtain ⟨n, hn⟩ := sortedAll_at s.heap its out.toArray
    have hf1 : H (s.heap.objs.size + 1) = none := I.hok.fresh (Nat.le_succ _)
    refine ⟨.ref (s.heap.objs.size + 1), upd H (s.heap.objs.size + 1) (.lst (srtV xs ds)), I.laid (t' := s.toks) (fun b o e => sortedAll_old e) (Nat.le_succ _) ⟨?_, out, n, hv, hn⟩, rfl, q _ hf1⟩
    show (((xs.zip ds).mergeSort _).map Prod.fst).length ≤ sizeLine
    rw [List.length_map, List.length_mergeSort, List.length_zip]
    omega

/-- the least, the greatest of a list of data -/
def rMinD (K : PySem.W.Frag) (pick : PyData → List PyData → PyData) : List V → Hp → VK → Prop := fun vs H Q => ∃ a xs d ds, vs = [V.ref a] ∧ SqL K H a xs ∧ DpAll K H xs (d :: ds) ∧ PySem.W.AlikeAll (d :: ds) ∧ PyData.depthAll (d :: ds) ≤ 60 ∧
  ∀ (i : Nat) (x : V), xs[i]? = some x → (d :: ds)[i]? = some (pick d ds) → Q x H
theorem DpAll.at {K : PySem.W.Frag} {H : Hp} : ∀ {xs : List V} {ds : List PyData} {i : Nat} {x : V}, DpAll K H xs ds → xs[i]? = some x → ∃ d, ds[i]? = some d ∧ Dp K H x d
  | _, _, _, _, .nil, e => by simp at e
  | _, _, 0, _, .cons h _, e => by
    cases (Option.some.inj (by simpa using e))
    exact ⟨_, rfl, h⟩
  | _, _, i + 1, _, .cons _ t, e => by
    obtain ⟨d, h1, h2⟩ := DpAll.at (i := i) t (by simpa using e)
    exact ⟨d, by simpa using h1, h2⟩
theorem Vals.back : ∀ {xs : List V} {us : List Value} {i : Nat} {u : Value}, Vals xs us → us[i]? = some u → ∃ x, xs[i]? = some x ∧ RelV x u
  | _, _, _, _, .nil, e => by simp at e
  | _, _, 0, _, .cons r _, e => by
    cases (Option.some.inj (by simpa using e))
    exact ⟨_, rfl, r⟩
  | _, _, i + 1, _, .cons _ t, e => by
    obtain ⟨x, h1, h2⟩ := Vals.back (i := i) t (by simpa using e)
    exact ⟨x, by simpa using h1, h2⟩
theorem picked {pins : List (Addr × Obj)} {σ : L2.St} {H : Hp} {s : Shared} {xs : List V} {ds : List PyData} {its : List Value} (I : L2.Inv X pins σ H s) (hd : DpAll X.K H xs ds) (rv : Vals xs its) {i : Nat} {v : Value} {h' : Heap} {m : PyData} {bs : List Addr}
    (hi : its[i]? = some v) (hr : Reads h' v m bs) (hk : ∀ b o, s.heap.get? b = some o → h'.get? b = some o) : ∃ x, xs[i]? = some x ∧ RelV x v ∧ ds[i]? = some m := by
  obtain ⟨x, hx, rx⟩ := Vals.back rv hi
  obtain ⟨d, h1, h2⟩ := DpAll.at hd hx
  obtain ⟨as, r2⟩ := Dp.reads I _ _ _ h2 rx
  have r3 := PyProof.Rows.Reads.keeps hk r2
  have e := (r3.unique _ _ hr).1
  exact ⟨x, hx, rx, by rw [h1, e]⟩
theorem cr_minD (hc : X.calm = true) (hu : X.A.units + 65 < cLine) : CallR X (.builtin "min") (rMinD X.K PySem.W.minD) := by
  intro pins s σ H vs us Q I r h
  obtain ⟨a, xs, d, ds, rfl, hs, hd, hal, hdp, q⟩ := h
  obtain ⟨its, rv, hl, hz⟩ := I.list hs
  obtain ⟨u, rfl, ru⟩ := L2.vals1 r
  obtain rfl : u = Value.ref a := ru
  obtain ⟨as, hr⟩ := Dp.readsAll I _ _ _ hd rv
  refine PySem.W.min_list_data (I.ok.hd hc) hl.isList (by simpa using hr) hal (by omega) fun i v h' tk bs hi hb hk => ?_
  obtain ⟨x, hx, rx, hm⟩ := picked I hd rv (by simpa using hi) hb hk
  exact ⟨x, H, I.kept (t' := tk) hk, rx, q i x hx hm⟩
theorem cr_maxD (hc : X.calm = true) (hu : X.A.units + 65 < cLine) : CallR X (.builtin "max") (rMinD X.K PySem.W.maxD) := by
  intro pins s σ H vs us Q I r h
  obtain ⟨a, xs, d, ds, rfl, hs, hd, hal, hdp, q⟩ := h
  obtain ⟨its, rv, hl, hz⟩ := I.list hs
  obtain ⟨u, rfl, ru⟩ := L2.vals1 r
  obtain rfl : u = Value.ref a := ru
  obtain ⟨as, hr⟩ := Dp.readsAll I _ _ _ hd rv
  refine PySem.W.max_list_data (I.ok.hd hc) hl.isList (by simpa using hr) hal (by omega) fun i v h' tk bs hi hb hk => ?_
  obtain ⟨x, hx, rx, hm⟩ := picked I hd rv (by simpa using hi) hb hk
  exact ⟨x, H, I.kept (t' := tk) hk, rx, q i x hx hm⟩

/-! ### calls of built-in things -/
theorem cr_dictCopy : CallR X (.type "dict") (fun xs H Q => ∃ a kvs, xs = [.ref a] ∧ Rd H a (.dK kvs) ∧ ∀ p, H p = none → Q (.ref p) (upd H p (.dK kvs))) := by
  intro pins s σ H xs us Q I r h
  obtain ⟨a, kvs, rfl, e, q⟩ := h
  obtain ⟨u, rfl, ru⟩ := L2.vals1 r
  obtain rfl : u = Value.ref a := ru
  exact d_copyOf I e fun p s' hp I' => ⟨.ref p, _, I', rfl, q p hp⟩
def Bi.name : Bi → Str
  | .len => "len" | .sum => "sum" | .max => "max" | .min => "min" | .all => "all" | .any => "any" | .sorted => "sorted" | .list => "list" | .tuple => "tuple" | .dict => "dict" | .int => "int" | .isi => "isinstance" | .abs => "abs"
  | .max2 => "max" | .min2 => "min"
def Bi.val : Bi → Value
  | .len => .builtin "len" | .sum => .builtin "sum" | .max => .builtin "max" | .min => .builtin "min" | .all => .builtin "all" | .any => .builtin "any" | .sorted => .builtin "sorted" | .list => .type "list" | .tuple => .type "tuple"
  | .dict => .type "dict" | .int => .type "int" | .isi => .builtin "isinstance" | .abs => .builtin "abs" | .max2 => .builtin "max" | .min2 => .builtin "min"
def Bi.n : Bi → Nat
  | .isi => 2 | .max2 => 2 | .min2 => 2 | _ => 1
def rBi (K : PySem.W.Frag) : Bi → List V → Hp → VK → Prop
  | .len => fun xs H Q => (∃ x n, xs = [x] ∧ LenV K x H n ∧ Q (.int n) H) ∨ (∃ a kvs, xs = [.ref a] ∧ H a = some (.dK kvs) ∧ Q (.int kvs.length) H)
  | .sum => rSum K
  | .max => rMinD K PySem.W.maxD
  | .min => rMinD K PySem.W.minD
  | .all => rAll K
  | .any => rAny K
  | .sorted => fun xs H Q => rSortD K xs H Q ∨ ∃ a kvs ks, xs = [V.ref a] ∧ Rd H a (HO.dK kvs) ∧ kvs.map (·.1) = ks.map Sum.inl ∧ ks.length < 64 ∧ ∀ (ys : List Int) (p : Addr), ys.Perm ks → ys.Pairwise (· ≤ ·) → H p = none → Q (V.ref p) (upd H p (HO.lst (ys.map V.int)))
  | .list => fun xs H Q => ∃ p ys, xs = [.ref p] ∧ (SqL K H p ys ∨ SqT K H p ys) ∧ ∀ l, H l = none → Q (.ref l) (upd H l (.lst ys))
  | .tuple => fun xs H Q => ∃ p ys, xs = [.ref p] ∧ ((SqL K H p ys ∧ ∀ l, H l = none → Q (.ref l) (upd H l (.tup ys))) ∨ (SqT K H p ys ∧ Q (.ref p) H))
  | .dict => fun xs H Q => (∃ (a : Addr) (ps : List Addr) (kvs : List (Key × V)), xs = [.ref a] ∧ SqL K H a (ps.map V.ref) ∧ Paired (fun p kv => SqT K H p [kV kv.1, kv.2]) ps kvs ∧ ∀ p, H p = none → Q (.ref p) (upd H p (.dK (mergeK [] kvs)))) ∨
      ∃ a kvs, xs = [.ref a] ∧ Rd H a (.dK kvs) ∧ ∀ p, H p = none → Q (.ref p) (upd H p (.dK kvs))
  | .int => fun xs H Q => (∃ i, xs = [.int i] ∧ Q (.int i) H) ∨ ∃ k, xs = [.bl k] ∧ Q (.int (if k = true then 1 else 0)) H
  | .isi => rIsi K
  | .abs => fun xs H Q => ∃ i, xs = [.int i] ∧ Q (.int (if i < 0 then -i else i)) H
  | .max2 => fun xs H Q => ∃ i j, xs = [.int i, .int j] ∧ Q (.int (if j > i then j else i)) H
  | .min2 => fun xs H Q => ∃ i j, xs = [.int i, .int j] ∧ Q (.int (if j < i then j else i)) H
theorem cr_bi (hc : X.calm = true) (hu : X.A.units + 65 < cLine) : ∀ b : Bi, CallR X b.val (rBi X.K b)
  | .len => CallR.or call_len call_lenD
  | .sum => cr_sum hc
  | .max => cr_maxD hc hu
  | .min => cr_minD hc hu
  | .all => cr_all hc
  | .any => cr_any hc
  | .sorted => CallR.or (cr_sortD hu) (call_sortedDI hc)
  | .list => call_list_of
  | .tuple => call_tuple_of
  | .dict => CallR.or (call_dictP hc) cr_dictCopy
  | .int => call_int1
  | .isi => call_isi
  | .abs => call_abs
  | .max2 => call_max2 hc
  | .min2 => call_min2 hc
theorem boot_bi : ∀ b : Bi, bootBuiltins b.name = some b.val := fun b => by cases b <;> decide +kernel
theorem bi_name (b : Bi) : b.name ≠ "__name__" ∧ (b.name == ("__debug__" : Str)) = false := by cases b <;> decide
end

/-! ### calls whose exceptions are wished for at the caller's slots -/
section
variable {X : Cx} {CX : CXT} {k : Nat} {f C : Addr} {fd : FuncData} {ps : List Str} {sp : Sp} {dvs : List V} {ds : List Value} {E : L2.St → XK} {x m : Str} {p pos apos : Pos} {e o : Expr} {es : List Expr} {ta : TE} {t : TA}
theorem pe_call0SD (F : FnOk X.prog X.w X.K X.mg X.base CX k f fd ps sp) (hr : Room k X.A) (hg : Gl X x) (hm : X.mg x = some (.ref f)) (hk : PySem.W.keepIn X.K (.ref f) = true) (hb : Binds X.K fd ps ds) (hd : Vals dvs ds) (hx : ∀ σ, PassesAt CX X σ (E σ))
    (hdb : (x == ("__debug__" : Str)) = false := by decide) : PE X (.Call (.Name x p) [] [] pos) (tCallSD sp dvs E tNil) := by
  refine ⟨fun pins s σ H Q I h => ?_⟩
  refine wpAny_Call_Name_kw (ld_glob I hg hm ?_ hdb)
  exact PySem.W.callWith_K0 I.kIn hk (run_fnSD (us := []) F hr hb hd (hx σ) I .nil h)
def tMethSD (C : Addr) (m : Str) (sp : Sp) (dvs : List V) (E : L2.St → XK) (ta : TE) (t : TA) : TE := fun σ H Q => ta σ H fun x H1 => ∃ a dx fs, x = .ref a ∧ H1 a = some (.ins C dx fs) ∧ fs.lookup m = none ∧
  t σ H1 fun vs H2 => sp (x :: (vs ++ dvs)) H2 Q (E σ)
theorem pe_methSD {pl : Sem Bool} (he : PE X o ta) (c : Cls X.K C) (hm : Meth X.K C m f) (F : FnOk X.prog X.w X.K X.mg X.base CX k f fd ps sp) (hr : Room k X.A) (hb : Binds X.K fd ps ds) (hd : Vals dvs ds) (hx : ∀ σ, PassesAt CX X σ (E σ)) (ha : PA X (e :: es) t)
    (hst : starEach (e :: es) X.env = (false, eval e X.env) :: starEach es X.env) (hpl : (backTo pos (starEach es X.env)).any (·.1) = false)
    (ht : eval (.Call (.Attribute o m apos) (e :: es) [] pos) X.env = (do
      let ov ← eval o X.env
      standAt apos.atName
      let (f, first) ← holding [ov] (getMethod ov m pl)
      callWith pos f first (backTo pos (starEach (e :: es) X.env)) (backToKw pos (keywordEach [] X.env)))) :
    PE X (.Call (.Attribute o m apos) (e :: es) [] pos) (tMethSD C m sp dvs E ta t) := by
  refine ⟨fun pins s σ H Q I h => ?_⟩
  refine PySem.W.methodCall_KW (pl := pl) (thn (he.run pins s σ H _ I h) fun u s1 ⟨x, H1, I1, rx, a, dx, fs, ex, ea, l, q⟩ => ?_) ht
  subst ex
  obtain rfl : u = Value.ref a := rx
  refine getmeth_ok I1 ea c hm l ?_
  refine PySem.W.callWith_K (first := [.ref a]) (h₀ := X.base) I.ok.mod.kin hm.kp (thn (ha.run pos pins s1 σ H1 _ I1 q) fun us s2 ⟨vs, H2, I2, r, q2⟩ => ⟨I2.kIn, ?_⟩) hst hpl
  exact run_fnSD (us := .ref a :: us) (vs := .ref a :: vs) F hr hb hd (hx σ) I2 (.cons rfl r) q2
theorem pe_meth0SD {pl : Sem Bool} (he : PE X o ta) (c : Cls X.K C) (hm : Meth X.K C m f) (F : FnOk X.prog X.w X.K X.mg X.base CX k f fd ps sp) (hr : Room k X.A) (hb : Binds X.K fd ps ds) (hd : Vals dvs ds) (hx : ∀ σ, PassesAt CX X σ (E σ))
    (ht : eval (.Call (.Attribute o m apos) [] [] pos) X.env = (do
      let ov ← eval o X.env
      standAt apos.atName
      let (f, first) ← holding [ov] (getMethod ov m pl)
      callWith pos f first (backTo pos (starEach [] X.env)) (backToKw pos (keywordEach [] X.env)))) :
    PE X (.Call (.Attribute o m apos) [] [] pos) (tMethSD C m sp dvs E ta tNil) := by
  refine ⟨fun pins s σ H Q I h => ?_⟩
  refine PySem.W.methodCall_KW (pl := pl) (thn (he.run pins s σ H _ I h) fun u s1 ⟨x, H1, I1, rx, a, dx, fs, ex, ea, l, q⟩ => ?_) ht
  subst ex
  obtain rfl : u = Value.ref a := rx
  refine getmeth_ok I1 ea c hm l ?_
  exact PySem.W.callWith_K0 (first := [.ref a]) I1.kIn hm.kp (run_fnSD (us := [.ref a]) (vs := [.ref a]) F hr hb hd (hx σ) I1 (.cons rfl .nil) q)
/-- what a made instance's exception may be wished for: the heap without it -/
def tMakeSD (C : Addr) (sp : Sp) (dvs : List V) (E : L2.St → XK) (t : TA) : TE := fun σ H Q => t σ H fun vs H1 => ∀ x dx, H1 x = none → H1 dx = none → dx ≠ x →
  sp (.ref x :: (vs ++ dvs)) (upd (upd H1 dx (.own x)) x (.ins C dx [])) (fun v H2 => v = .non ∧ Q (.ref x) H2) (E σ)
theorem run_makeSD {pins : List (Addr × Obj)} {σ : L2.St} {H : Hp} {s : Shared} {Q : VK} {us : List Value} {vs : List V} (M : Mk X.K C f) (F : FnOk X.prog X.w X.K X.mg X.base CX k f fd ps sp) (hr : Room (k + 1) X.A) (hb : Binds X.K fd ps ds) (hd : Vals dvs ds)
    (hx : PassesAt CX X σ (E σ)) (I : L2.Inv X pins σ H s) (r : Vals vs us)
    (h : ∀ x dx, H x = none → H dx = none → dx ≠ x → sp (.ref x :: (vs ++ dvs)) (upd (upd H dx (.own x)) x (.ins C dx [])) (fun v H2 => v = .non ∧ Q (.ref x) H2) (E σ)) :
    wpAny (model X.prog X.w) X.A (call (.ref C) us) (EP X pins σ Q) X.xe s := by
  have hq := h (s.heap.objs.size + 1) s.heap.objs.size (I.hok.fresh (Nat.le_succ _)) (I.hok.fresh (Nat.le_refl _)) (Nat.ne_of_lt (Nat.lt_succ_self _))
  have I2 := Inv.made (C := C) I
  have r2 : Vals (V.ref (s.heap.objs.size + 1) :: (vs ++ dvs)) (Value.ref (s.heap.objs.size + 1) :: (us ++ ds)) := .cons rfl (r.append hd)
  have hl : (Value.ref (s.heap.objs.size + 1) :: us ++ ds).length = ps.length := by
    have e := r2.length
    rw [F.len _ _ _ _ hq] at e
    exact e.symm
  refine wpAny_call (make_map (f := f) I.kIn M.makes M.init (beq_iff_eq.mp M.fn) (codeAny_mono (F.run _ X.stack _ _ ⟨Value.ref (s.heap.objs.size + 1) :: us, []⟩ (Value.ref (s.heap.objs.size + 1) :: (us ++ ds)) _ _ (E σ) (hr.make C us [])
    (I2.env0.make C us []) (hb _ (Value.ref (s.heap.objs.size + 1) :: us) I2.kIn hl) r2 hq) fun r s' hq' => ?_))
  cases r with
  | error e => exact hx pins _ _ e s' I2 hq'
  | ok fl =>
    cases fl with
    | ret u =>
      obtain ⟨v, H', I3, rv, ev, q3⟩ := I2.after hq'
      subst ev
      exact ⟨rv, ⟨V.ref (s.heap.objs.size + 1), H', I3, rfl, q3⟩⟩
    | next => exact False.elim hq'
    | brk => exact False.elim hq'
    | cont => exact False.elim hq'
theorem pe_makeSD (M : Mk X.K C f) (F : FnOk X.prog X.w X.K X.mg X.base CX k f fd ps sp) (hr : Room (k + 1) X.A) (hg : Gl X x) (hm : X.mg x = some (.ref C)) (hb : Binds X.K fd ps ds) (hd : Vals dvs ds) (hx : ∀ σ, PassesAt CX X σ (E σ))
    (ha : PA X (e :: es) t) (hdb : (x == ("__debug__" : Str)) = false) (he : starEach (e :: es) X.env = (false, eval e X.env) :: starEach es X.env) (hpl : (backTo pos (starEach es X.env)).any (·.1) = false) :
    PE X (.Call (.Name x p) (e :: es) [] pos) (tMakeSD C sp dvs E t) := by
  refine ⟨fun pins s σ H Q I h => ?_⟩
  refine wpAny_Call_Name_kw (ld_glob I hg hm ?_ hdb)
  refine PySem.W.callWith_K (h₀ := X.base) I.ok.mod.kin M.kp (thn (ha.run pos pins s σ H _ I h) fun us s1 ⟨vs, H1, I1, r, q⟩ => ⟨I1.kIn, ?_⟩) he hpl
  exact run_makeSD M F hr hb hd (hx σ) I1 r q
theorem pe_make0SD (M : Mk X.K C f) (F : FnOk X.prog X.w X.K X.mg X.base CX k f fd ps sp) (hr : Room (k + 1) X.A) (hg : Gl X x) (hm : X.mg x = some (.ref C)) (hb : Binds X.K fd ps ds) (hd : Vals dvs ds) (hx : ∀ σ, PassesAt CX X σ (E σ))
    (hdb : (x == ("__debug__" : Str)) = false) : PE X (.Call (.Name x p) [] [] pos) (tMakeSD C sp dvs E tNil) := by
  refine ⟨fun pins s σ H Q I h => ?_⟩
  refine wpAny_Call_Name_kw (ld_glob I hg hm ?_ hdb)
  exact PySem.W.callWith_K0 I.kIn M.kp (run_makeSD (us := []) M F hr hb hd (hx σ) I .nil h)
end
end MP

set_option Elab.async false
set_option linter.all false
set_option maxRecDepth 100000
set_option maxHeartbeats 4000000
namespace MP
open PySem PySem.Spec PyProof.Rows L2

/-! ### readings -/
structure RT where
  e : TE
  t : TT
def RT.of (t : TE) : RT := ⟨t, tB t⟩
def WX0 : WX := fun _ _ _ _ => False
def rSl (K : PySem.W.Frag) : V → Option Int → Option Int → Hp → VK → Prop := fun x a b H Q => rSlL K x a b H Q ∨ rSlA K x a b H Q
theorem sl_all {X : Cx} : SlR X (rSl X.K) := SlR.or sl_list sl_tupA
def tNeverE : TE := fun _ _ _ => False
def tOr (t u : TE) : TE := fun σ H Q => t σ H Q ∨ u σ H Q
def iOr (t u : TI) : TI := fun σ H Q => t σ H Q ∨ u σ H Q
/-- methods of built-in things, by their arguments' readings -/
def rBm (K : PySem.W.Frag) : Bm → TE → List TE → TE
  | .get1, o, [a] => tDGet1 o a
  | .get2, o, [a, b] => tDGet2 o a b
  | .append, o, [a] => tBM K "list" rAppend o (tCons a tNil)
  | .extend, o, [a] => tBM K "list" rExtend o (tCons a tNil)
  | _, _, _ => tNeverE
mutual
def wp (Γ : Tab) (M : Mo) : E → WX → RT
  | .var i, _ => .of (tVar i)
  | .lit l, _ => .of (tC l.v)
  | .glb k, _ => .of (tC (M.con k))
  | .bty n, _ => .of (tC (.ty n))
  | .tup es, W => .of (tTup (wps Γ M es W))
  | .lst es, W => .of (tLst (wps Γ M es W))
  | .dsp .nil, _ => .of (tOr tDNewK tDNewT)
  | .dsp (.cons k v r), W => .of (tDisp (((wp Γ M k W).e, (wp Γ M v W).e) :: wpp Γ M r W))
  | .bin op a b, W => .of (tOp (rBin M.K op) (wp Γ M a W).e (wp Γ M b W).e)
  | .neg a, W => .of (tUn (rU fun i => .int (-i)) (wp Γ M a W).e)
  | .not a, W => ⟨tNotV (wp Γ M a W).e, L2.tNot (wp Γ M a W).t⟩
  | .andl es, W => wpAnd Γ M es W
  | .orl es, W => wpOr Γ M es W
  | .ife c a b, W => ⟨tIf (wp Γ M c W).t (wp Γ M a W).e (wp Γ M b W).e, fun σ H Q => (wp Γ M c W).t σ H fun k H1 => if k = true then (wp Γ M a W).t σ H1 Q else (wp Γ M b W).t σ H1 Q⟩
  | .cmp op a b, W => .of (tOp (rCmp M.K op) (wp Γ M a W).e (wp Γ M b W).e)
  | .isN a, W => .of (tIsN (wp Γ M a W).e)
  | .ntN a, W => .of (tNotN (wp Γ M a W).e)
  | .idx a i, W => .of (tOr (tOp (rIx M.K) (wp Γ M a W).e (wp Γ M i W).e) (tDGet (wp Γ M a W).e (wp Γ M i W).e))
  | .slc a lo hi, W => .of (tSl (rSl M.K) (wp Γ M a W).e (wpo Γ M lo W) (wpo Γ M hi W))
  | .fld c j a, W => .of (tFld M.K (wp Γ M a W).e ((Γ.cl c).fields.getD j ""))
  | .call g es, W => .of (tCallSD (M.cal g) (M.dv g es.len) (fun σ cls d H => W cls d σ H) (wps Γ M es W))
  | .meth g o es, W => .of (tMethSD (M.clsA ((Γ.fn g).cls.getD 0)) (Γ.fn g).name (M.cal g) (M.dv g (es.len + 1)) (fun σ cls d H => W cls d σ H) (wp Γ M o W).e (wps Γ M es W))
  | .new c es _, W => .of (tMakeSD (M.clsA c) (M.cal (Γ.cl c).init) (M.dv (Γ.cl c).init (es.len + 1)) (fun σ cls d H => W cls d σ H) (wps Γ M es W))
  | .bi b es, W => .of (tCB (rBi M.K b) (wps Γ M es W))
  | .bm m o es, W => .of (rBm M.K m (wp Γ M o W).e (wpl Γ M es W))
  | .rng tl a, W => .of (if tl then tTupRg (tRg1 (wp Γ M a W).e) else tLstRg (tRg1 (wp Γ M a W).e))
  | .comp e t it c own, W => .of (tLc (wpI Γ M it W) (wpG Γ M t) (wpc Γ M c WX0) (wp Γ M e WX0).e own)
def wps (Γ : Tab) (M : Mo) : Es → WX → TA
  | .nil, _ => tNil
  | .cons e r, W => tCons (wp Γ M e W).e (wps Γ M r W)
def wpl (Γ : Tab) (M : Mo) : Es → WX → List TE
  | .nil, _ => []
  | .cons e r, W => (wp Γ M e W).e :: wpl Γ M r W
def wpAnd (Γ : Tab) (M : Mo) : Es → WX → RT
  | .nil, _ => .of tNeverE
  | .cons e .nil, W => wp Γ M e W
  | .cons e r, W => ⟨tAndV (wp Γ M e W).e (wpAnd Γ M r W).e, tAnd (wp Γ M e W).t (wpAnd Γ M r W).t⟩
def wpOr (Γ : Tab) (M : Mo) : Es → WX → RT
  | .nil, _ => .of tNeverE
  | .cons e .nil, W => wp Γ M e W
  | .cons e r, W => ⟨tOrV (wp Γ M e W).e (wpOr Γ M r W).e, L2.tOr (wp Γ M e W).t (wpOr Γ M r W).t⟩
def wpp (Γ : Tab) (M : Mo) : Ps → WX → List (TE × TE)
  | .nil, _ => []
  | .cons k v r, W => ((wp Γ M k W).e, (wp Γ M v W).e) :: wpp Γ M r W
def wpo (Γ : Tab) (M : Mo) : O → WX → TO
  | .no, _ => tNoPart
  | .yes e, W => tPart (wp Γ M e W).e
def wpc (Γ : Tab) (M : Mo) : O → WX → TT
  | .no, _ => tYes
  | .yes e, W => (wp Γ M e W).t
def wpI (Γ : Tab) (M : Mo) : I → WX → TI
  | .val e, W => iOr (iList M.K (wp Γ M e W).e) (iTup M.K (wp Γ M e W).e)
  | .rng1 a, W => iRng1 (tCons (wp Γ M a W).e tNil)
  | .rng2 a b, W => iRng2 (tCons (wp Γ M a W).e (tCons (wp Γ M b W).e tNil))
  | .enum e, W => iEnum M.K (tCons (wp Γ M e W).e tNil)
  | .zip a b, W => RZ.iZipA M.K (tCons (wp Γ M a W).e (tCons (wp Γ M b W).e tNil))
def wpG (Γ : Tab) (M : Mo) : T → TG
  | .name i => gName i
  | .tup ts => gTup M.K ts.len (wpGs Γ M ts)
def wpGs (Γ : Tab) (M : Mo) : Ts → TGs
  | .nil => gNil
  | .cons t r => gCons (wpG Γ M t) (wpGs Γ M r)
end

/-! ### the check against the row's tree -/
def visB (sc : Scope) (x : Str) : Bool := match sc.names.lookup x with
  | some .local => true
  | some .cell => true
  | some .free => true
  | _ => false
def locB (sc : Scope) (x : Str) : Bool := match sc.names.lookup x with
  | some .local => true
  | some .cell => true
  | _ => false
def glB (sc : Scope) (x : Str) : Bool := decide (sc.names.lookup x = some .globalImplicit)
def nmB (x : Str) : Bool := !(x == ("__debug__" : Str)) && !(x == ("__classdict__" : Str)) && !(x == ("super" : Str))
def frB (Γ : Tab) (sc : Scope) (x : Str) : Bool := glB sc x && decide (x ∈ Γ.free) && !(x == ("__name__" : Str)) && nmB x
def ownP (N : List Str) (own : List Nat) : List (Str × Nat) := own.map fun i => (N.getD i "", i)
def bmName : Bm → Str
  | .get1 => "get" | .get2 => "get" | .append => "append" | .extend => "extend" | .items => "items" | .pop1 => "pop" | .pop2 => "pop" | .popL => "pop" | .setdefault => "setdefault" | .index => "index" | .remove => "remove"
def bmN : Bm → Nat
  | .get2 => 2 | .pop2 => 2 | .setdefault => 2 | .items => 0 | .popL => 0 | _ => 1
mutual
def chk (Γ : Tab) (N : List Str) : E → Scope → Expr → Bool
  | .var i, sc, .Name x _ => decide (N[i]? = some x) && visB sc x && nmB x
  | .lit l, _, .Constant c _ _ => l.is c
  | .glb k, sc, .Name x _ => decide (k < Γ.cons.length) && decide (Γ.co k = x) && glB sc x && nmB x
  | .bty n, sc, .Name x _ => frB Γ sc x && decide (bootBuiltins x = some (.type n))
  | .tup es, sc, .Tuple xs _ _ => chks Γ N es sc xs
  | .lst es, sc, .List xs _ => chks Γ N es sc xs
  | .dsp .nil, _, .Dict [] [] _ => true
  | .dsp (.cons k v r), sc, .Dict (some a :: ks) (b :: vs) _ => chk Γ N k sc a && chk Γ N v sc b && chkp Γ N r sc ks vs && decide (ks.length < 15)
  | .bin op a b, sc, .BinOp x o y _ => decide (op.op = o) && chk Γ N a sc x && chk Γ N b sc y
  | .neg a, sc, .UnaryOp .USub x _ => chk Γ N a sc x
  | .not a, sc, .UnaryOp .Not x _ => chk Γ N a sc x
  | .andl es, sc, .BoolOp .And xs _ => chks Γ N es sc xs
  | .orl es, sc, .BoolOp .Or xs _ => chks Γ N es sc xs
  | .ife c a b, sc, .IfExp x y z _ => chk Γ N c sc x && chk Γ N a sc y && chk Γ N b sc z
  | .cmp op a b, sc, .Compare x [o] [y] _ => decide (op.op = o) && chk Γ N a sc x && chk Γ N b sc y
  | .isN a, sc, .Compare x [.Is] [.Constant .none _ _] _ => chk Γ N a sc x
  | .ntN a, sc, .Compare x [.IsNot] [.Constant .none _ _] _ => chk Γ N a sc x
  | .idx a i, sc, .Subscript x y _ => chk Γ N a sc x && chk Γ N i sc y
  | .slc a lo hi, sc, .Subscript x (.Slice l h none _) _ => chk Γ N a sc x && chko Γ N lo sc l && chko Γ N hi sc h
  | .fld c j a, sc, .Attribute x f _ => decide (c < Γ.clss.length) && decide (j < (Γ.cl c).fields.length) && decide ((Γ.cl c).fields.getD j "" = f) && chk Γ N a sc x
  | .call g es, sc, .Call (.Name x _) xs [] _ => decide (g < Γ.fns.length) && decide ((Γ.fn g).name = x) && decide ((Γ.fn g).cls = none) && decide (es.len ≤ (Γ.fn g).ps.length) && glB sc x && nmB x && chks Γ N es sc xs
  | .meth g o es, sc, .Call (.Attribute x f ap) xs [] cp => (ap.endLine == cp.line) && decide (xs.length < 30) && decide (g < Γ.fns.length) && decide ((Γ.fn g).name = f) && (Γ.fn g).cls.isSome && decide (es.len + 1 ≤ (Γ.fn g).ps.length) && chk Γ N o sc x && chks Γ N es sc xs
  | .new c es _, sc, .Call (.Name x _) xs [] _ => decide (c < Γ.clss.length) && decide ((Γ.cl c).name = x) && decide (es.len + 1 ≤ (Γ.fn (Γ.cl c).init).ps.length) && glB sc x && nmB x && chks Γ N es sc xs
  | .bi b es, sc, .Call (.Name x _) xs [] _ => decide (b.name = x) && frB Γ sc x && decide (xs.length = b.n) && chks Γ N es sc xs
  | .bm m o es, sc, .Call (.Attribute x f ap) xs [] cp => decide (bmName m = f) && decide (xs.length = bmN m) && (ap.endLine == cp.line) && chk Γ N o sc x && chks Γ N es sc xs
  | .rng tl a, sc, .Call (.Name x _) [.Call (.Name y _) [z] [] _] [] _ => decide (x = (if tl then ("tuple" : Str) else "list")) && decide (y = ("range" : Str)) && frB Γ sc x && frB Γ sc y && chk Γ N a sc z
  | .comp e t it c own, sc, .ListComp x [⟨tg, ix, ifs, 0⟩] s2 _ => chkI Γ N it sc tg ix && blkC N sc s2 (ownP N own) && chkT N t s2 tg && chkc Γ N c (relS s2 sc) ifs && chk Γ N e (relS s2 sc) x
  | _, _, _ => false
def chks (Γ : Tab) (N : List Str) : Es → Scope → List Expr → Bool
  | .nil, _, [] => true
  | .cons e r, sc, x :: xs => chk Γ N e sc x && chks Γ N r sc xs
  | _, _, _ => false
def chkp (Γ : Tab) (N : List Str) : Ps → Scope → List (Option Expr) → List Expr → Bool
  | .nil, _, [], [] => true
  | .cons k v r, sc, some a :: ks, b :: vs => chk Γ N k sc a && chk Γ N v sc b && chkp Γ N r sc ks vs
  | _, _, _, _ => false
def chko (Γ : Tab) (N : List Str) : O → Scope → Option Expr → Bool
  | .no, _, none => true
  | .yes e, sc, some x => chk Γ N e sc x
  | _, _, _ => false
def chkc (Γ : Tab) (N : List Str) : O → Scope → List Expr → Bool
  | .no, _, [] => true
  | .yes e, sc, [x] => chk Γ N e sc x
  | _, _, _ => false
def chkI (Γ : Tab) (N : List Str) : I → Scope → Expr → Expr → Bool
  | .val e, sc, _, x => chk Γ N e sc x
  | .rng1 a, sc, _, .Call (.Name x _) [y] [] _ => decide (x = ("range" : Str)) && frB Γ sc x && chk Γ N a sc y
  | .rng2 a b, sc, _, .Call (.Name x _) [y, z] [] _ => decide (x = ("range" : Str)) && frB Γ sc x && chk Γ N a sc y && chk Γ N b sc z
  | .enum e, sc, .Tuple _ _ _, .Call (.Name x _) [y] [] _ => decide (x = ("enumerate" : Str)) && frB Γ sc x && chk Γ N e sc y
  | .zip a b, sc, .Tuple _ _ _, .Call (.Name x _) [y, z] [] _ => decide (x = ("zip" : Str)) && frB Γ sc x && chk Γ N a sc y && chk Γ N b sc z
  | _, _, _, _ => false
def chkT (N : List Str) : T → Scope → Expr → Bool
  | .name i, sc, .Name x _ => decide (N[i]? = some x) && locB sc x
  | .tup ts, sc, .Tuple xs _ _ => chkTs N ts sc xs
  | _, _, _ => false
def chkTs (N : List Str) : Ts → Scope → List Expr → Bool
  | .nil, _, [] => true
  | .cons t r, sc, x :: xs => chkT N t sc x && chkTs N r sc xs
  | _, _, _ => false
end
end MP

set_option Elab.async false
set_option linter.all false
set_option maxRecDepth 100000
set_option maxHeartbeats 4000000
namespace MP
open PySem PySem.Spec PyProof.Rows L2

/-! ### what a context must give -/
structure FnF (X : Cx) (Γ : Tab) (M : Mo) (k g : Nat) : Prop where
  ok : FnOk X.prog X.w X.K X.mg X.base (L2.CX X.prog X.w) k (M.fnA g) (M.fd g) (Γ.fn g).ps (M.cal g)
  kp : PySem.W.keepIn X.K (.ref (M.fnA g)) = true
  gl : (Γ.fn g).cls = none → X.mg (Γ.fn g).name = some (.ref (M.fnA g))
  me : ∀ c, (Γ.fn g).cls = some c → Cls X.K (M.clsA c) ∧ Meth X.K (M.clsA c) (Γ.fn g).name (M.fnA g)
  bd : ∀ n, n ≤ (Γ.fn g).ps.length → ∃ ds, Vals (M.dv g n) ds ∧ Binds X.K (M.fd g) (Γ.fn g).ps ds
structure Facts (X : Cx) (Γ : Tab) (M : Mo) (k : Nat) : Prop where
  K : M.K = X.K
  hr : Room (k + 1) X.A
  fn : ∀ g, g < Γ.fns.length → FnF X Γ M k g
  cl : ∀ c, c < Γ.clss.length → Mk X.K (M.clsA c) (M.fnA (Γ.cl c).init) ∧ X.mg (Γ.cl c).name = some (.ref (M.clsA c)) ∧ (Γ.cl c).init < Γ.fns.length
  co : ∀ j, j < Γ.cons.length → ∃ u, X.mg (Γ.co j) = some u ∧ RelV (M.con j) u
  fr : ∀ x ∈ Γ.free, X.mg x = none
/-- ts: the scope whose names are stored -/
structure CtxOk (X : Cx) (N : List Str) (sc ts : Scope) (W : WX) : Prop where
  N : X.N = N
  nd : X.N.Nodup
  sc : X.env.scope = sc
  calm : X.calm = true
  fn : ∀ x, locB ts x = true → Loc X.env.scope x ∧ (X.fn x = true ∨ X.env.scope.names.lookup x = some .local)
  tk : Takes X W

theorem Facts.blk {X : Cx} {Γ : Tab} {M : Mo} {k : Nat} (F : Facts X Γ M k) (s : Shared) (H : Hp) (scope : Scope) (ce : Env) (fp : List Addr) : Facts (X.blk s H scope ce fp) Γ M k :=
  ⟨F.K, F.hr, fun g hg => ⟨(F.fn g hg).ok, (F.fn g hg).kp, (F.fn g hg).gl, (F.fn g hg).me, (F.fn g hg).bd⟩, F.cl, F.co, F.fr⟩
theorem locB_of {sc : Scope} {x : Str} (h : locB sc x = true) : sc.names.lookup x = some .local ∨ sc.names.lookup x = some .cell := by
  unfold locB at h
  split at h
  · exact .inl ‹_›
  · exact .inr ‹_›
  · cases h
theorem visB_of {sc : Scope} {x : Str} (h : visB sc x = true) : Vis sc x := by
  unfold visB at h
  split at h
  · exact .inl ‹_›
  · exact .inr (.inl ‹_›)
  · exact .inr (.inr ‹_›)
  · cases h
theorem CtxOk.blk {X : Cx} {N : List Str} {sc ts : Scope} {W : WX} (C : CtxOk X N sc ts W) (s : Shared) (H : Hp) (scope : Scope) (A : Addr) (cl : List (Str × Addr)) (fp : List Addr) :
    CtxOk (X.blk s H scope (compEnvC scope cl A X.env) fp) N (relS scope sc) scope WX0 := by
  have hsc : (compEnvC scope cl A X.env).scope = relS scope sc := by rw [← C.sc]; rfl
  refine ⟨C.N, C.nd, hsc, C.calm, fun x hx => ?_, takes0⟩
  show Loc (compEnvC scope cl A X.env).scope x ∧ ((scope.names.lookup x == some .cell) = true ∨ (compEnvC scope cl A X.env).scope.names.lookup x = some .local)
  rw [hsc]
  rcases locB_of hx with h | h
  · have q : (relS scope sc).names.lookup x = some .local := lookup_relS_keep (sc := sc) (by decide) h
    exact ⟨.inl q, .inr q⟩
  · have q : (relS scope sc).names.lookup x = some .cell := lookup_relS_keep (sc := sc) (by decide) h
    exact ⟨.inr q, .inl (by rw [h]; rfl)⟩

/-! ### small facts of checked trees -/
theorem star_of {Γ : Tab} {N : List Str} {m : E} {sc : Scope} {e : Expr} (h : chk Γ N m sc e = true) (r : List Expr) (env : Env) : starEach (e :: r) env = (false, eval e env) :: starEach r env := by
  cases e <;> first | rfl | (cases m <;> simp [chk] at h)
theorem stars_of {Γ : Tab} {N : List Str} {sc : Scope} : ∀ {m : Es} {es : List Expr} (pos : Pos) (env : Env), chks Γ N m sc es = true → (backTo pos (starEach es env)).any (·.1) = false
  | .nil, [], _, _, _ => rfl
  | .nil, _ :: _, _, _, h => by simp [chks] at h
  | .cons _ _, [], _, _, h => by simp [chks] at h
  | .cons a r, e :: es, pos, env, h => by
    simp only [chks, Bool.and_eq_true] at h
    rw [star_of h.1]
    have := stars_of (m := r) pos env h.2
    simpa [backTo] using this
theorem sl_no {Γ : Tab} {N : List Str} {m : E} {sc : Scope} {e : Expr} (h : chk Γ N m sc e = true) : PlainIx e := by
  cases e <;> first | (intro _ _; rfl) | (cases m <;> simp [chk] at h)
theorem nosl_of {Γ : Tab} {N : List Str} {m : E} {sc : Scope} {e : Expr} (h : chk Γ N m sc e = true) : NoSl e := by
  cases e <;> first | (intro _ _; rfl) | (cases m <;> simp [chk] at h)
theorem mark_of {Γ : Tab} {N : List Str} {m : E} {sc : Scope} {e : Expr} (op : CmpOp) (h : chk Γ N m sc e = true) : behindInMarks op e = false := by
  cases e <;> first | rfl | (cases m <;> simp [chk] at h)
theorem attr_of' {Γ : Tab} {N : List Str} {m : E} {sc : Scope} {e : Expr} (f : Str) (env : Env) (h : chk Γ N m sc e = true) : attributeBase e f env (eval e env) = eval e env := by
  cases e <;> try rfl
  rename_i fn args kws pos
  cases fn <;> try rfl
  rename_i x p
  cases args <;> try rfl
  cases kws <;> try rfl
  have hx : (x == ("super" : Str)) = false := by
    cases m <;> simp [chk, nmB, frB] at h <;> simp [h]
  unfold attributeBase
  simp only [bne, hx, Bool.not_false, Bool.true_or, if_true]
theorem fold_of {Γ : Tab} {N : List Str} {m : I} {sc : Scope} {tg e : Expr} (h : chkI Γ N m sc tg e = true) (env : Env) (x : Value) : foldedSetIterable e env x = pure x := by
  cases e <;> first | rfl | (cases m <;> cases tg <;> simp [chkI, chk] at h)
theorem plain_of {Γ : Tab} {N : List Str} {sc : Scope} : ∀ {m : Es} {es : List Expr} (pos : Pos) (env : Env), chks Γ N m sc es = true → (backTo pos (starEach es env)).all (fun x => !x.1) = true
  | .nil, [], _, _, _ => rfl
  | .nil, _ :: _, _, _, h => by simp [chks] at h
  | .cons _ _, [], _, _, h => by simp [chks] at h
  | .cons a r, e :: es, pos, env, h => by
    simp only [chks, Bool.and_eq_true] at h
    rw [star_of h.1]
    have := plain_of (m := r) pos env h.2
    simpa [backTo] using this
theorem meth_tree {Γ : Tab} {N : List Str} {sc : Scope} {m : E} {ms : Es} {o : Expr} {es : List Expr} {f : Str} {apos pos : Pos} {env : Env} (ho : chk Γ N m sc o = true) (hes : chks Γ N ms sc es = true) (hl : (apos.endLine == pos.line) = true) (hn : es.length < 30) :
    eval (.Call (.Attribute o f apos) es [] pos) env = (do
      let ov ← eval o env
      standAt apos.atName
      let (f, first) ← holding [ov] (getMethod ov f (do return (← importBound o env).getD true))
      callWith pos f first (backTo pos (starEach es env)) (backToKw pos (keywordEach [] env))) := by
  rw [arm_eval_Call, attr_of' f env ho]
  have hf : methodCallForm (es.length + ([] : List Keyword).length) (backTo pos (starEach es env)) (backToKw pos (keywordEach [] env)) = true := by
    unfold methodCallForm
    rw [plain_of pos env hes]
    simp [backToKw, keywordEach, hn]
  unfold methodCall
  rw [hf]
  simp only [calleeOf, methodCallPos, hl, Bool.not_true, Bool.false_or, if_true, pure_bind]
end MP

set_option Elab.async false
set_option linter.all false
set_option maxRecDepth 100000
set_option maxHeartbeats 4000000
namespace MP
open PySem PySem.Spec PyProof.Rows L2
/-! what a checked tree looks like -/
section
variable {Γ : Tab} {N : List Str} {sc : Scope} {e : Expr}
theorem inv_var {i : Nat} (h : chk Γ N (.var i) sc e = true) : ∃ x p, e = (.Name x p) ∧ (decide (N[i]? = some x) && visB sc x && nmB x) = true := by
  rw [chk.eq_def] at h
  split at h <;> first | (exact absurd h (by decide)) | (simp_all; done) | (injections; subst_vars; exact ⟨_, _, rfl, h⟩) | (exact ⟨_, _, rfl, rfl⟩)
theorem inv_lit {l : Lit} (h : chk Γ N (.lit l) sc e = true) : ∃ c k p, e = (.Constant c k p) ∧ (l.is c) = true := by
  rw [chk.eq_def] at h
  split at h <;> first | (exact absurd h (by decide)) | (simp_all; done) | (injections; subst_vars; exact ⟨_, _, _, rfl, h⟩) | (exact ⟨_, _, _, rfl, rfl⟩)
theorem inv_glb {k : Nat} (h : chk Γ N (.glb k) sc e = true) : ∃ x p, e = (.Name x p) ∧ (decide (k < Γ.cons.length) && decide (Γ.co k = x) && glB sc x && nmB x) = true := by
  rw [chk.eq_def] at h
  split at h <;> first | (exact absurd h (by decide)) | (simp_all; done) | (injections; subst_vars; exact ⟨_, _, rfl, h⟩) | (exact ⟨_, _, rfl, rfl⟩)
theorem inv_bty {n : String} (h : chk Γ N (.bty n) sc e = true) : ∃ x p, e = (.Name x p) ∧ (frB Γ sc x && decide (bootBuiltins x = some (.type n))) = true := by
  rw [chk.eq_def] at h
  split at h <;> first | (exact absurd h (by decide)) | (simp_all; done) | (injections; subst_vars; exact ⟨_, _, rfl, h⟩) | (exact ⟨_, _, rfl, rfl⟩)
theorem inv_tup {es : Es} (h : chk Γ N (.tup es) sc e = true) : ∃ xs k p, e = (.Tuple xs k p) ∧ (chks Γ N es sc xs) = true := by
  rw [chk.eq_def] at h
  split at h <;> first | (exact absurd h (by decide)) | (simp_all; done) | (injections; subst_vars; exact ⟨_, _, _, rfl, h⟩) | (exact ⟨_, _, _, rfl, rfl⟩)
theorem inv_lst {es : Es} (h : chk Γ N (.lst es) sc e = true) : ∃ xs p, e = (.List xs p) ∧ (chks Γ N es sc xs) = true := by
  rw [chk.eq_def] at h
  split at h <;> first | (exact absurd h (by decide)) | (simp_all; done) | (injections; subst_vars; exact ⟨_, _, rfl, h⟩) | (exact ⟨_, _, rfl, rfl⟩)
theorem inv_dsp0  (h : chk Γ N (.dsp .nil) sc e = true) : ∃ p, e = (.Dict [] [] p) ∧ (true) = true := by
  rw [chk.eq_def] at h
  split at h <;> first | (exact absurd h (by decide)) | (simp_all; done) | (injections; subst_vars; exact ⟨_, rfl, h⟩) | (exact ⟨_, rfl, rfl⟩)
theorem inv_dsp {k v : E} {r : Ps} (h : chk Γ N (.dsp (.cons k v r)) sc e = true) : ∃ a ks b vs p, e = (.Dict (some a :: ks) (b :: vs) p) ∧ (chk Γ N k sc a && chk Γ N v sc b && chkp Γ N r sc ks vs && decide (ks.length < 15)) = true := by
  rw [chk.eq_def] at h
  split at h <;> first | (exact absurd h (by decide)) | (simp_all; done) | (injections; subst_vars; exact ⟨_, _, _, _, _, rfl, h⟩) | (exact ⟨_, _, _, _, _, rfl, rfl⟩)
theorem inv_bin {op : Bop} {a b : E} (h : chk Γ N (.bin op a b) sc e = true) : ∃ x o y p, e = (.BinOp x o y p) ∧ (decide (op.op = o) && chk Γ N a sc x && chk Γ N b sc y) = true := by
  rw [chk.eq_def] at h
  split at h <;> first | (exact absurd h (by decide)) | (simp_all; done) | (injections; subst_vars; exact ⟨_, _, _, _, rfl, h⟩) | (exact ⟨_, _, _, _, rfl, rfl⟩)
theorem inv_neg {a : E} (h : chk Γ N (.neg a) sc e = true) : ∃ x p, e = (.UnaryOp .USub x p) ∧ (chk Γ N a sc x) = true := by
  rw [chk.eq_def] at h
  split at h <;> first | (exact absurd h (by decide)) | (simp_all; done) | (injections; subst_vars; exact ⟨_, _, rfl, h⟩) | (exact ⟨_, _, rfl, rfl⟩)
theorem inv_not {a : E} (h : chk Γ N (.not a) sc e = true) : ∃ x p, e = (.UnaryOp .Not x p) ∧ (chk Γ N a sc x) = true := by
  rw [chk.eq_def] at h
  split at h <;> first | (exact absurd h (by decide)) | (simp_all; done) | (injections; subst_vars; exact ⟨_, _, rfl, h⟩) | (exact ⟨_, _, rfl, rfl⟩)
theorem inv_andl {es : Es} (h : chk Γ N (.andl es) sc e = true) : ∃ xs p, e = (.BoolOp .And xs p) ∧ (chks Γ N es sc xs) = true := by
  rw [chk.eq_def] at h
  split at h <;> first | (exact absurd h (by decide)) | (simp_all; done) | (injections; subst_vars; exact ⟨_, _, rfl, h⟩) | (exact ⟨_, _, rfl, rfl⟩)
theorem inv_orl {es : Es} (h : chk Γ N (.orl es) sc e = true) : ∃ xs p, e = (.BoolOp .Or xs p) ∧ (chks Γ N es sc xs) = true := by
  rw [chk.eq_def] at h
  split at h <;> first | (exact absurd h (by decide)) | (simp_all; done) | (injections; subst_vars; exact ⟨_, _, rfl, h⟩) | (exact ⟨_, _, rfl, rfl⟩)
theorem inv_ife {c a b : E} (h : chk Γ N (.ife c a b) sc e = true) : ∃ x y z p, e = (.IfExp x y z p) ∧ (chk Γ N c sc x && chk Γ N a sc y && chk Γ N b sc z) = true := by
  rw [chk.eq_def] at h
  split at h <;> first | (exact absurd h (by decide)) | (simp_all; done) | (injections; subst_vars; exact ⟨_, _, _, _, rfl, h⟩) | (exact ⟨_, _, _, _, rfl, rfl⟩)
theorem inv_cmp {op : Cop} {a b : E} (h : chk Γ N (.cmp op a b) sc e = true) : ∃ x o y p, e = (.Compare x [o] [y] p) ∧ (decide (op.op = o) && chk Γ N a sc x && chk Γ N b sc y) = true := by
  rw [chk.eq_def] at h
  split at h <;> first | (exact absurd h (by decide)) | (simp_all; done) | (injections; subst_vars; exact ⟨_, _, _, _, rfl, h⟩) | (exact ⟨_, _, _, _, rfl, rfl⟩)
theorem inv_isN {a : E} (h : chk Γ N (.isN a) sc e = true) : ∃ x k q p, e = (.Compare x [.Is] [.Constant .none k q] p) ∧ (chk Γ N a sc x) = true := by
  rw [chk.eq_def] at h
  split at h <;> first | (exact absurd h (by decide)) | (simp_all; done) | (injections; subst_vars; exact ⟨_, _, _, _, rfl, h⟩) | (exact ⟨_, _, _, _, rfl, rfl⟩)
theorem inv_ntN {a : E} (h : chk Γ N (.ntN a) sc e = true) : ∃ x k q p, e = (.Compare x [.IsNot] [.Constant .none k q] p) ∧ (chk Γ N a sc x) = true := by
  rw [chk.eq_def] at h
  split at h <;> first | (exact absurd h (by decide)) | (simp_all; done) | (injections; subst_vars; exact ⟨_, _, _, _, rfl, h⟩) | (exact ⟨_, _, _, _, rfl, rfl⟩)
theorem inv_idx {a i : E} (h : chk Γ N (.idx a i) sc e = true) : ∃ x y p, e = (.Subscript x y p) ∧ (chk Γ N a sc x && chk Γ N i sc y) = true := by
  rw [chk.eq_def] at h
  split at h <;> first | (exact absurd h (by decide)) | (simp_all; done) | (injections; subst_vars; exact ⟨_, _, _, rfl, h⟩) | (exact ⟨_, _, _, rfl, rfl⟩)
theorem inv_slc {a : E} {lo hi : O} (h : chk Γ N (.slc a lo hi) sc e = true) : ∃ x l hh q p, e = (.Subscript x (.Slice l hh none q) p) ∧ (chk Γ N a sc x && chko Γ N lo sc l && chko Γ N hi sc hh) = true := by
  rw [chk.eq_def] at h
  split at h <;> first | (exact absurd h (by decide)) | (simp_all; done) | (injections; subst_vars; exact ⟨_, _, _, _, _, rfl, h⟩) | (exact ⟨_, _, _, _, _, rfl, rfl⟩)
theorem inv_fld {c j : Nat} {a : E} (h : chk Γ N (.fld c j a) sc e = true) : ∃ x f p, e = (.Attribute x f p) ∧ (decide (c < Γ.clss.length) && decide (j < (Γ.cl c).fields.length) && decide ((Γ.cl c).fields.getD j "" = f) && chk Γ N a sc x) = true := by
  rw [chk.eq_def] at h
  split at h <;> first | (exact absurd h (by decide)) | (simp_all; done) | (injections; subst_vars; exact ⟨_, _, _, rfl, h⟩) | (exact ⟨_, _, _, rfl, rfl⟩)
theorem inv_call {g : Nat} {es : Es} (h : chk Γ N (.call g es) sc e = true) : ∃ x q xs p, e = (.Call (.Name x q) xs [] p) ∧ (decide (g < Γ.fns.length) && decide ((Γ.fn g).name = x) && decide ((Γ.fn g).cls = none) && decide (es.len ≤ (Γ.fn g).ps.length) && glB sc x && nmB x && chks Γ N es sc xs) = true := by
  rw [chk.eq_def] at h
  split at h <;> first | (exact absurd h (by decide)) | (simp_all; done) | (injections; subst_vars; exact ⟨_, _, _, _, rfl, h⟩) | (exact ⟨_, _, _, _, rfl, rfl⟩)
theorem inv_meth {g : Nat} {o : E} {es : Es} (h : chk Γ N (.meth g o es) sc e = true) : ∃ x f ap xs cp, e = (.Call (.Attribute x f ap) xs [] cp) ∧ ((ap.endLine == cp.line) && decide (xs.length < 30) && decide (g < Γ.fns.length) && decide ((Γ.fn g).name = f) && (Γ.fn g).cls.isSome && decide (es.len + 1 ≤ (Γ.fn g).ps.length) && chk Γ N o sc x && chks Γ N es sc xs) = true := by
  rw [chk.eq_def] at h
  split at h <;> first | (exact absurd h (by decide)) | (simp_all; done) | (injections; subst_vars; exact ⟨_, _, _, _, _, rfl, h⟩) | (exact ⟨_, _, _, _, _, rfl, rfl⟩)
theorem inv_new {c : Nat} {es : Es} {z : Bool} (h : chk Γ N (.new c es z) sc e = true) : ∃ x q xs p, e = (.Call (.Name x q) xs [] p) ∧ (decide (c < Γ.clss.length) && decide ((Γ.cl c).name = x) && decide (es.len + 1 ≤ (Γ.fn (Γ.cl c).init).ps.length) && glB sc x && nmB x && chks Γ N es sc xs) = true := by
  rw [chk.eq_def] at h
  split at h <;> first | (exact absurd h (by decide)) | (simp_all; done) | (injections; subst_vars; exact ⟨_, _, _, _, rfl, h⟩) | (exact ⟨_, _, _, _, rfl, rfl⟩)
theorem inv_bi {b : Bi} {es : Es} (h : chk Γ N (.bi b es) sc e = true) : ∃ x q xs p, e = (.Call (.Name x q) xs [] p) ∧ (decide (b.name = x) && frB Γ sc x && decide (xs.length = b.n) && chks Γ N es sc xs) = true := by
  rw [chk.eq_def] at h
  split at h <;> first | (exact absurd h (by decide)) | (simp_all; done) | (injections; subst_vars; exact ⟨_, _, _, _, rfl, h⟩) | (exact ⟨_, _, _, _, rfl, rfl⟩)
theorem inv_bm {m : Bm} {o : E} {es : Es} (h : chk Γ N (.bm m o es) sc e = true) : ∃ x f ap xs cp, e = (.Call (.Attribute x f ap) xs [] cp) ∧ (decide (bmName m = f) && decide (xs.length = bmN m) && (ap.endLine == cp.line) && chk Γ N o sc x && chks Γ N es sc xs) = true := by
  rw [chk.eq_def] at h
  split at h <;> first | (exact absurd h (by decide)) | (simp_all; done) | (injections; subst_vars; exact ⟨_, _, _, _, _, rfl, h⟩) | (exact ⟨_, _, _, _, _, rfl, rfl⟩)
theorem inv_rng {tl : Bool} {a : E} (h : chk Γ N (.rng tl a) sc e = true) : ∃ x q1 y q2 z q3 p, e = (.Call (.Name x q1) [.Call (.Name y q2) [z] [] q3] [] p) ∧ (decide (x = (if tl then ("tuple" : Str) else "list")) && decide (y = ("range" : Str)) && frB Γ sc x && frB Γ sc y && chk Γ N a sc z) = true := by
  rw [chk.eq_def] at h
  split at h <;> first | (exact absurd h (by decide)) | (simp_all; done) | (injections; subst_vars; exact ⟨_, _, _, _, _, _, _, rfl, h⟩) | (exact ⟨_, _, _, _, _, _, _, rfl, rfl⟩)
theorem inv_comp {m : E} {t : T} {it : I} {c : O} {own : List Nat} (h : chk Γ N (.comp m t it c own) sc e = true) : ∃ x tg ix ifs s2 p, e = (.ListComp x [⟨tg, ix, ifs, 0⟩] s2 p) ∧ (chkI Γ N it sc tg ix && blkC N sc s2 (ownP N own) && chkT N t s2 tg && chkc Γ N c (relS s2 sc) ifs && chk Γ N m (relS s2 sc) x) = true := by
  rw [chk.eq_def] at h
  split at h <;> first | (exact absurd h (by decide)) | (simp_all; done) | (injections; subst_vars; exact ⟨_, _, _, _, _, _, rfl, h⟩) | (exact ⟨_, _, _, _, _, _, rfl, rfl⟩)
end
end MP

set_option Elab.async false
set_option linter.all false
set_option maxRecDepth 100000
set_option maxHeartbeats 4000000
namespace MP
open PySem PySem.Spec PyProof.Rows L2

section
variable {Γ : Tab} {M : Mo} {k : Nat} {N : List Str}
theorem ctx_glob {X : Cx} {sc ts : Scope} {W : WX} (C : CtxOk X N sc ts W) {x : Str} (h : glB sc x = true) : Gl X x := by
  show X.env.scope.names.lookup x = some .globalImplicit
  rw [C.sc]
  exact of_decide_eq_true h
theorem nm_deb {x : Str} (h : nmB x = true) : (x == ("__debug__" : Str)) = false ∧ (x == ("__classdict__" : Str)) = false := by
  simp only [nmB, Bool.and_eq_true, Bool.not_eq_true'] at h
  exact ⟨h.1.1, h.1.2⟩
theorem free_of {X : Cx} {sc ts : Scope} {W : WX} (F : Facts X Γ M k) (C : CtxOk X N sc ts W) {x : Str} (h : frB Γ sc x = true) : Gl X x ∧ X.mg x = none ∧ x ≠ "__name__" ∧ (x == ("__debug__" : Str)) = false := by
  simp only [frB, Bool.and_eq_true, decide_eq_true_eq, Bool.not_eq_true'] at h
  obtain ⟨⟨⟨h1, h2⟩, h3⟩, h4⟩ := h
  exact ⟨ctx_glob C h1, F.fr x h2, fun e => by simp [e] at h3, (nm_deb h4).1⟩
theorem pt_of {X : Cx} {m : E} {sc : Scope} {e : Expr} {t : TE} (h : PE X e t) (he : ∀ whole, isTrue e X.env whole = (do let v ← whole; standAt e.pos; holding [v] (truthy v))) : PE X e (RT.of t).e ∧ PT X e (RT.of t).t := ⟨h, pt_val h he⟩
theorem pt_cmp' {X : Cx} {op : CmpOp} {a b : Expr} {pos : Pos} {t : TE} (h : PC X op a b t) (h1 : behindInMarks op b = false) : PE X (.Compare a [op] [b] pos) (RT.of t).e ∧ PT X (.Compare a [op] [b] pos) (RT.of t).t := ⟨pe_cmp h h1, pt_cmp h h1⟩
theorem chks_len : ∀ {m : Es} {sc : Scope} {es : List Expr}, chks Γ N m sc es = true → m.len = es.length
  | .nil, _, [], _ => rfl
  | .nil, _, _ :: _, h => by simp [chks] at h
  | .cons _ _, _, [], h => by simp [chks] at h
  | .cons a r, sc, e :: es, h => by
    simp only [chks, Bool.and_eq_true] at h
    show r.len + 1 = es.length + 1
    rw [chks_len h.2]
theorem Facts.u {X : Cx} (F : Facts X Γ M k) : X.A.units + 65 < cLine := by have := F.hr.un; omega
theorem kws_nil (pos : Pos) (env : Env) : backToKw pos (keywordEach [] env) = [] := rfl
theorem own_map {N : List Str} : ∀ own : List Nat, (ownP N own).map (·.2) = own
  | [] => rfl
  | a :: r => by
    show a :: (ownP N r).map (·.2) = a :: r
    rw [own_map r]

theorem pt_ifExp {X : Cx} {c a b : Expr} {pos : Pos} {tc ta tb : TT} (hc : PT X c tc) (ha : PT X a ta) (hb : PT X b tb) : PT X (.IfExp c a b pos) (fun σ H Q => tc σ H fun k H1 => if k = true then ta σ H1 Q else tb σ H1 Q) := by
  refine ⟨fun pins s σ H Q I h => ?_⟩
  rw [arm_isTrue_IfExp]
  refine wpAny_bind (thn (hc.run pins s σ H _ I h) fun d s1 ⟨H1, I1, q1⟩ => ?_)
  cases d with
  | true => exact ha.run pins s1 σ H1 Q I1 q1
  | false => exact hb.run pins s1 σ H1 Q I1 q1
theorem pe_bi' {X : Cx} {b : Bi} {r : List V → Hp → VK → Prop} {e : Expr} {es : List Expr} {t : TA} {p pos : Pos} (hc : CallR X b.val r) (hg : Gl X b.name) (hm : X.mg b.name = none) (ha : PA X (e :: es) t)
    (he : starEach (e :: es) X.env = (false, eval e X.env) :: starEach es X.env) (hpl : (backTo pos (starEach es X.env)).any (·.1) = false) : PE X (.Call (.Name b.name p) (e :: es) [] pos) (tCB r t) := by
  have hv := boot_bi b
  have hn := bi_name b
  cases b
  all_goals first
    | exact pe_callB hc hg hm hv ha hn.1 hn.2 he hpl
    | exact pe_callTy hc hg hm hv ha hn.1 hn.2 he hpl
theorem pos_bi (b : Bi) : 0 < b.n := by cases b <;> decide

theorem thTs_len : ∀ {m : Ts} {ts : Scope} {es : List Expr}, chkTs N m ts es = true → ∀ env, (assignEach es env).length = m.len ∧ (assignEach es env).findIdx? (·.1) = none ∧ ∀ e r, es = e :: r → (assignEach (e :: r) env).map (·.2) = assign e env :: (assignEach r env).map (·.2)
  | .nil, ts, [], _, env => ⟨rfl, rfl, fun _ _ z => nomatch z⟩
  | .nil, ts, _ :: _, h, env => by simp [chkTs] at h
  | .cons _ _, ts, [], h, env => by simp [chkTs] at h
  | .cons a r, ts, e :: es, h, env => by
    simp only [chkTs, Bool.and_eq_true] at h
    obtain ⟨q1, q2, _⟩ := thTs_len h.2 env
    have st : assignEach (e :: es) env = (false, assign e env) :: assignEach es env := by
      cases e <;> first | rfl | (cases a <;> simp [chkT] at h)
    refine ⟨by rw [st]; simp [q1, Ts.len], by rw [st]; simp [List.findIdx?_cons, q2], fun e' r' z => ?_⟩
    cases z
    rw [st]
    rfl
mutual
theorem thT : ∀ (m : T) {X : Cx} {sc ts : Scope} {W : WX} (F : Facts X Γ M k) (C : CtxOk X N sc ts W) {e : Expr}, chkT N m ts e = true → PG X e (wpG Γ M m)
  | .name i, X, sc, ts, W, F, C, e, h => by
    cases e with
    | Name x p =>
      simp only [chkT, Bool.and_eq_true, decide_eq_true_eq] at h
      obtain ⟨l1, l2⟩ := C.fn x h.2
      exact pg_name C.nd (by rw [C.N]; exact h.1) l1 l2
    | _ => simp [chkT] at h
  | .tup t, X, sc, ts, W, F, C, e, h => by
    cases e with
    | Tuple xs j p =>
      rw [chkT] at h
      obtain ⟨q1, q2, _⟩ := thTs_len h X.env
      have r := pg_tup (k := j) (pos := p) C.calm (thTs t F C h) q1 q2
      rw [← F.K] at r
      exact r
    | _ => simp [chkT] at h
theorem thTs : ∀ (m : Ts) {X : Cx} {sc ts : Scope} {W : WX} (F : Facts X Γ M k) (C : CtxOk X N sc ts W) {es : List Expr}, chkTs N m ts es = true → PGs X es (wpGs Γ M m)
  | .nil, X, sc, ts, W, F, C, [], h => pgs_nil
  | .nil, X, sc, ts, W, F, C, _ :: _, h => by simp [chkTs] at h
  | .cons _ _, X, sc, ts, W, F, C, [], h => by simp [chkTs] at h
  | .cons a r, X, sc, ts, W, F, C, e :: es, h => by
    have h3 := (thTs_len h X.env).2.2 e es rfl
    simp only [chkTs, Bool.and_eq_true] at h
    exact pgs_cons (thT a F C h.1) (thTs r F C h.2) h3
end

theorem inv_rng1 {sc : Scope} {tg e : Expr} {a : E} (h : chkI Γ N (.rng1 a) sc tg e = true) : ∃ q y p, e = (.Call (.Name "range" q) [y] [] p) ∧ (frB Γ sc "range" && chk Γ N a sc y) = true := by
  rw [chkI.eq_def] at h
  split at h <;> first | (simp_all; done) | (injections; subst_vars; simp only [Bool.and_eq_true, decide_eq_true_eq] at h ⊢; obtain ⟨⟨rfl, h1⟩, h2⟩ := h; exact ⟨_, _, _, rfl, h1, h2⟩)
theorem inv_rng2 {sc : Scope} {tg e : Expr} {a b : E} (h : chkI Γ N (.rng2 a b) sc tg e = true) : ∃ q y z p, e = (.Call (.Name "range" q) [y, z] [] p) ∧ (frB Γ sc "range" && chk Γ N a sc y && chk Γ N b sc z) = true := by
  rw [chkI.eq_def] at h
  split at h <;> first | (simp_all; done) | (injections; subst_vars; simp only [Bool.and_eq_true, decide_eq_true_eq] at h ⊢; obtain ⟨⟨⟨rfl, h1⟩, h2⟩, h3⟩ := h; exact ⟨_, _, _, _, rfl, ⟨h1, h2⟩, h3⟩)
theorem inv_enum {sc : Scope} {tg e : Expr} {a : E} (h : chkI Γ N (.enum a) sc tg e = true) : ∃ el kk tp q y p, tg = .Tuple el kk tp ∧ e = (.Call (.Name "enumerate" q) [y] [] p) ∧ (frB Γ sc "enumerate" && chk Γ N a sc y) = true := by
  rw [chkI.eq_def] at h
  split at h <;> first | (simp_all; done) | (injections; subst_vars; simp only [Bool.and_eq_true, decide_eq_true_eq] at h ⊢; obtain ⟨⟨rfl, h1⟩, h2⟩ := h; exact ⟨_, _, _, _, _, _, rfl, rfl, h1, h2⟩)
theorem inv_zip {sc : Scope} {tg e : Expr} {a b : E} (h : chkI Γ N (.zip a b) sc tg e = true) : ∃ el kk tp q y z p, tg = .Tuple el kk tp ∧ e = (.Call (.Name "zip" q) [y, z] [] p) ∧ (frB Γ sc "zip" && chk Γ N a sc y && chk Γ N b sc z) = true := by
  rw [chkI.eq_def] at h
  split at h <;> first | (simp_all; done) | (injections; subst_vars; simp only [Bool.and_eq_true, decide_eq_true_eq] at h ⊢; obtain ⟨⟨⟨rfl, h1⟩, h2⟩, h3⟩ := h; exact ⟨_, _, _, _, _, _, _, rfl, rfl, ⟨h1, h2⟩, h3⟩)
/-- the arguments one by one -/
inductive PEs (X : Cx) : List Expr → List TE → Prop
  | nil : PEs X [] []
  | cons {e : Expr} {t : TE} {es : List Expr} {ts : List TE} : PE X e t → starEach (e :: es) X.env = (false, eval e X.env) :: starEach es X.env → PEs X es ts → PEs X (e :: es) (t :: ts)
theorem PEs.one {X : Cx} {xs : List Expr} {t : TE} (h : PEs X xs [t]) : ∃ y, xs = [y] ∧ PE X y t ∧ starEach [y] X.env = [(false, eval y X.env)] := by
  cases h with
  | cons h1 s r =>
    cases r
    exact ⟨_, rfl, h1, s⟩
theorem PEs.two {X : Cx} {xs : List Expr} {t u : TE} (h : PEs X xs [t, u]) : ∃ y z, xs = [y, z] ∧ PE X y t ∧ PE X z u ∧ starEach [y, z] X.env = [(false, eval y X.env), (false, eval z X.env)] := by
  cases h with
  | cons h1 s r =>
    cases r with
    | cons h2 s2 r =>
      cases r
      refine ⟨_, _, rfl, h1, h2, ?_⟩
      rw [s, s2]
      rfl

mutual
theorem thE : ∀ (m : E) {X : Cx} {sc ts : Scope} {W : WX} (F : Facts X Γ M k) (C : CtxOk X N sc ts W) {e : Expr}, chk Γ N m sc e = true → PE X e (wp Γ M m W).e ∧ PT X e (wp Γ M m W).t
  | .var i, X, sc, ts, W, F, C, e, h => by
    have h0 := inv_var h
    clear h
    obtain ⟨x, p, rfl, h⟩ := h0
    simp only [Bool.and_eq_true, decide_eq_true_eq] at h
    exact pt_of (m := .var i) (sc := sc) (pe_var (by rw [C.N]; exact h.1.1) (by rw [C.sc]; exact visB_of h.1.2) (nm_deb h.2).1 (nm_deb h.2).2) (fun _ => rfl)
  | .lit l, X, sc, ts, W, F, C, e, h => by
    have h0 := inv_lit h
    clear h
    obtain ⟨c, k, p, rfl, h⟩ := h0
    cases l <;> cases c <;> simp [Lit.is] at h
    · exact pt_of (m := .var 0) (sc := sc) pe_non (fun _ => rfl)
    · subst h; exact pt_of (m := .var 0) (sc := sc) pe_bl (fun _ => rfl)
    · subst h; exact pt_of (m := .var 0) (sc := sc) pe_int (fun _ => rfl)
    · subst h; exact pt_of (m := .var 0) (sc := sc) pe_str (fun _ => rfl)
  | .glb j, X, sc, ts, W, F, C, e, h => by
    have h0 := inv_glb h
    clear h
    obtain ⟨x, p, rfl, h⟩ := h0
    simp only [Bool.and_eq_true, decide_eq_true_eq] at h
    obtain ⟨u, h1, h2⟩ := F.co j h.1.1.1
    exact pt_of (m := .var 0) (sc := sc) (pe_glob (ctx_glob C h.1.2) (by rw [← h.1.1.2]; exact h1) h2 (nm_deb h.2).1) (fun _ => rfl)
  | .bty n, X, sc, ts, W, F, C, e, h => by
    have h0 := inv_bty h
    clear h
    obtain ⟨x, p, rfl, h⟩ := h0
    simp only [Bool.and_eq_true, decide_eq_true_eq] at h
    obtain ⟨f1, f2, f3, f4⟩ := free_of F C h.1
    exact pt_of (m := .var 0) (sc := sc) (pe_bltn f1 f2 h.2 rfl f3 f4) (fun _ => rfl)
  | .tup es, X, sc, ts, W, F, C, e, h => by
    have h0 := inv_tup h
    clear h
    obtain ⟨xs, j, p, rfl, h⟩ := h0
    exact pt_of (m := .var 0) (sc := sc) (pe_tup (thEs es F C h)) (fun _ => rfl)
  | .lst es, X, sc, ts, W, F, C, e, h => by
    have h0 := inv_lst h
    clear h
    obtain ⟨xs, p, rfl, h⟩ := h0
    exact pt_of (m := .var 0) (sc := sc) (pe_lst (thEs es F C h)) (fun _ => rfl)
  | .dsp .nil, X, sc, ts, W, F, C, e, h => by
    have h0 := inv_dsp0 h
    clear h
    obtain ⟨p, rfl, h⟩ := h0
    exact pt_of (m := .var 0) (sc := sc) (PE.or pe_dnewK pe_dnewT) (fun _ => rfl)
  | .dsp (.cons a b r), X, sc, ts, W, F, C, e, h => by
    have h0 := inv_dsp h
    clear h
    obtain ⟨x, ks, y, vs, p, rfl, h⟩ := h0
    simp only [Bool.and_eq_true, decide_eq_true_eq] at h
    obtain ⟨q1, q2, q3⟩ := thPs r F C h.1.2 p
    exact pt_of (m := .var 0) (sc := sc) (pe_disp (pps_cons (thE a F C h.1.1.1).1 (thE b F C h.1.1.2).1 q1) (by simp [q2]) (by simp [q3]) (fun z => by cases z) (by simp; omega)) (fun _ => rfl)
  | .bin op a b, X, sc, ts, W, F, C, e, h => by
    have h0 := inv_bin h
    clear h
    obtain ⟨x, o, y, p, rfl, h⟩ := h0
    simp only [Bool.and_eq_true, decide_eq_true_eq] at h
    obtain ⟨⟨rfl, h1⟩, h2⟩ := h
    exact pt_of (m := .var 0) (sc := sc) (pe_op (by rw [F.K]; exact op_bin op) (thE a F C h1).1 (thE b F C h2).1) (fun _ => rfl)
  | .neg a, X, sc, ts, W, F, C, e, h => by
    have h0 := inv_neg h
    clear h
    obtain ⟨x, p, rfl, h⟩ := h0
    exact pt_of (m := .var 0) (sc := sc) (pe_un un_neg (thE a F C h).1) (fun _ => rfl)
  | .not a, X, sc, ts, W, F, C, e, h => by
    have h0 := inv_not h
    clear h
    obtain ⟨x, p, rfl, h⟩ := h0
    exact ⟨pe_not (thE a F C h).1, pt_not (thE a F C h).2⟩
  | .andl es, X, sc, ts, W, F, C, e, h => by
    have h0 := inv_andl h
    clear h
    obtain ⟨xs, p, rfl, h⟩ := h0
    exact ⟨(thAnd es F C h p).1, (thAnd es F C h p).2.pt⟩
  | .orl es, X, sc, ts, W, F, C, e, h => by
    have h0 := inv_orl h
    clear h
    obtain ⟨xs, p, rfl, h⟩ := h0
    exact ⟨(thOr es F C h p).1, (thOr es F C h p).2.pt⟩
  | .ife c a b, X, sc, ts, W, F, C, e, h => by
    have h0 := inv_ife h
    clear h
    obtain ⟨x, y, z, p, rfl, h⟩ := h0
    simp only [Bool.and_eq_true] at h
    exact ⟨pe_ifExp (pos := p) (thE c F C h.1.1).2 (thE a F C h.1.2).1 (thE b F C h.2).1, pt_ifExp (thE c F C h.1.1).2 (thE a F C h.1.2).2 (thE b F C h.2).2⟩
  | .cmp op a b, X, sc, ts, W, F, C, e, h => by
    have h0 := inv_cmp h
    clear h
    obtain ⟨x, o, y, p, rfl, h⟩ := h0
    simp only [Bool.and_eq_true, decide_eq_true_eq] at h
    obtain ⟨⟨rfl, h1⟩, h2⟩ := h
    exact pt_cmp' (PC.of (by rw [F.K]; exact op_cmp F.u op) (thE a F C h1).1 (thE b F C h2).1) (mark_of _ h2)
  | .isN a, X, sc, ts, W, F, C, e, h => by
    have h0 := inv_isN h
    clear h
    obtain ⟨x, j, q, p, rfl, h⟩ := h0
    exact pt_cmp' (pc_isN (thE a F C h).1) rfl
  | .ntN a, X, sc, ts, W, F, C, e, h => by
    have h0 := inv_ntN h
    clear h
    obtain ⟨x, j, q, p, rfl, h⟩ := h0
    exact pt_cmp' (pc_notN (thE a F C h).1) rfl
  | .idx a i, X, sc, ts, W, F, C, e, h => by
    have h0 := inv_idx h
    clear h
    obtain ⟨x, y, p, rfl, h⟩ := h0
    simp only [Bool.and_eq_true] at h
    have u := F.u
    exact pt_of (m := .var 0) (sc := sc) (PE.or (pe_ix (by rw [F.K]; exact ix_seq) (thE a F C h.1).1 (thE i F C h.2).1 (sl_no h.2)) (pe_dget (by omega) (thE a F C h.1).1 (thE i F C h.2).1 (nosl_of h.2))) (fun _ => rfl)
  | .slc a lo hi, X, sc, ts, W, F, C, e, h => by
    have h0 := inv_slc h
    clear h
    obtain ⟨x, l, hh, q, p, rfl, h⟩ := h0
    simp only [Bool.and_eq_true] at h
    exact pt_of (m := .var 0) (sc := sc) (pe_slice (by rw [F.K]; exact sl_all) (thE a F C h.1.1).1 (thO lo F C h.1.2) (thO hi F C h.2)) (fun _ => rfl)
  | .fld c j a, X, sc, ts, W, F, C, e, h => by
    have h0 := inv_fld h
    clear h
    obtain ⟨x, f, p, rfl, h⟩ := h0
    simp only [Bool.and_eq_true, decide_eq_true_eq] at h
    obtain ⟨⟨⟨_, _⟩, rfl⟩, h⟩ := h
    have q := pe_fld (f := (Γ.cl c).fields.getD j "") (pos := p) (thE a F C h).1 (attr_of' _ _ h)
    rw [← F.K] at q
    exact pt_of (m := .var 0) (sc := sc) q (fun _ => rfl)
  | .call g es, X, sc, ts, W, F, C, e, h => by
    have h0 := inv_call h
    clear h
    obtain ⟨x, q, xs, p, rfl, h⟩ := h0
    simp only [Bool.and_eq_true, decide_eq_true_eq] at h
    obtain ⟨⟨⟨⟨⟨⟨h1, rfl⟩, h3⟩, h4⟩, h5⟩, h6⟩, h7⟩ := h
    have G := F.fn g h1
    obtain ⟨ds, d1, d2⟩ := G.bd es.len h4
    have hr : Room k X.A := F.hr.mono (Nat.le_succ k)
    cases es with
    | nil =>
      cases xs with
      | cons a r => simp [chks] at h7
      | nil => exact pt_of (m := .var 0) (sc := sc) (pe_call0SD G.ok hr (ctx_glob C h5) (G.gl h3) G.kp d2 d1 (fun σ => passAt C.tk σ) (nm_deb h6).1) (fun _ => rfl)
    | cons a r =>
      cases xs with
      | nil => simp [chks] at h7
      | cons y ys =>
        have A := thEs (.cons a r) F C h7
        simp only [chks, Bool.and_eq_true] at h7
        exact pt_of (m := .var 0) (sc := sc) (pe_callSD G.ok hr (ctx_glob C h5) (G.gl h3) G.kp d2 d1 (fun σ => passAt C.tk σ) A (nm_deb h6).1 (star_of h7.1 ys X.env) (stars_of p X.env h7.2)) (fun _ => rfl)
  | .meth g o es, X, sc, ts, W, F, C, e, h => by
    have h0 := inv_meth h
    clear h
    obtain ⟨x, f, ap, xs, cp, rfl, h⟩ := h0
    simp only [Bool.and_eq_true, decide_eq_true_eq] at h
    obtain ⟨⟨⟨⟨⟨⟨⟨h1, h2⟩, h3⟩, rfl⟩, h5⟩, h6⟩, h7⟩, h8⟩ := h
    have G := F.fn g h3
    obtain ⟨c, hc⟩ := Option.isSome_iff_exists.mp h5
    obtain ⟨c1, c2⟩ := G.me c hc
    obtain ⟨ds, d1, d2⟩ := G.bd (es.len + 1) h6
    have hr : Room k X.A := F.hr.mono (Nat.le_succ k)
    have hcc : (Γ.fn g).cls.getD 0 = c := by rw [hc]; rfl
    have tree := meth_tree (f := (Γ.fn g).name) (apos := ap) (pos := cp) (env := X.env) h7 h8 h1 h2
    have O := (thE o F C h7).1
    have fin : PE X (.Call (.Attribute x (Γ.fn g).name ap) xs [] cp) (wp Γ M (.meth g o es) W).e := by
      show PE X _ (tMethSD (M.clsA ((Γ.fn g).cls.getD 0)) _ _ _ _ _ _)
      rw [hcc]
      cases es with
      | nil =>
        cases xs with
        | cons a r => simp [chks] at h8
        | nil => exact pe_meth0SD O c1 c2 G.ok hr d2 d1 (fun σ => passAt C.tk σ) tree
      | cons a r =>
        cases xs with
        | nil => simp [chks] at h8
        | cons y ys =>
          have A := thEs (.cons a r) F C h8
          simp only [chks, Bool.and_eq_true] at h8
          exact pe_methSD O c1 c2 G.ok hr d2 d1 (fun σ => passAt C.tk σ) A (star_of h8.1 ys X.env) (stars_of cp X.env h8.2) tree
    exact pt_of (m := .var 0) (sc := sc) fin (fun _ => rfl)
  | .new c es z, X, sc, ts, W, F, C, e, h => by
    have h0 := inv_new h
    clear h
    obtain ⟨x, q, xs, p, rfl, h⟩ := h0
    simp only [Bool.and_eq_true, decide_eq_true_eq] at h
    obtain ⟨⟨⟨⟨⟨h1, rfl⟩, h3⟩, h4⟩, h5⟩, h6⟩ := h
    obtain ⟨m1, m2, m3⟩ := F.cl c h1
    have G := F.fn _ m3
    obtain ⟨ds, d1, d2⟩ := G.bd (es.len + 1) h3
    cases es with
    | nil =>
      cases xs with
      | cons a r => simp [chks] at h6
      | nil => exact pt_of (m := .var 0) (sc := sc) (pe_make0SD m1 G.ok F.hr (ctx_glob C h4) m2 d2 d1 (fun σ => passAt C.tk σ) (nm_deb h5).1) (fun _ => rfl)
    | cons a r =>
      cases xs with
      | nil => simp [chks] at h6
      | cons y ys =>
        have A := thEs (.cons a r) F C h6
        simp only [chks, Bool.and_eq_true] at h6
        exact pt_of (m := .var 0) (sc := sc) (pe_makeSD m1 G.ok F.hr (ctx_glob C h4) m2 d2 d1 (fun σ => passAt C.tk σ) A (nm_deb h5).1 (star_of h6.1 ys X.env) (stars_of p X.env h6.2)) (fun _ => rfl)
  | .bi b es, X, sc, ts, W, F, C, e, h => by
    have h0 := inv_bi h
    clear h
    obtain ⟨x, q, xs, p, rfl, h⟩ := h0
    simp only [Bool.and_eq_true, decide_eq_true_eq] at h
    obtain ⟨⟨⟨rfl, h2⟩, h3⟩, h4⟩ := h
    obtain ⟨f1, f2, _, _⟩ := free_of F C h2
    cases xs with
    | nil => exact absurd h3.symm (Nat.ne_of_gt (pos_bi b))
    | cons y ys =>
      have A := thEs es F C h4
      cases es with
      | nil => simp [chks] at h4
      | cons a r =>
        simp only [chks, Bool.and_eq_true] at h4
        exact pt_of (m := .var 0) (sc := sc) (pe_bi' (by rw [F.K]; exact cr_bi C.calm F.u b) f1 f2 A (star_of h4.1 ys X.env) (stars_of p X.env h4.2)) (fun _ => rfl)
  | .bm m o es, X, sc, ts, W, F, C, e, h => by
    have h0 := inv_bm h
    clear h
    obtain ⟨x, f, ap, xs, cp, rfl, h⟩ := h0
    simp only [Bool.and_eq_true, decide_eq_true_eq] at h
    obtain ⟨⟨⟨⟨rfl, h2⟩, h3⟩, h4⟩, h5⟩ := h
    have O := (thE o F C h4).1
    have A := thEs es F C h5
    have u := F.u
    have base := fun f => attr_of' f X.env h4
    have fin : PE X (.Call (.Attribute x (bmName m) ap) xs [] cp) (wp Γ M (.bm m o es) W).e := by
      show PE X _ (rBm M.K m (wp Γ M o W).e (wpl Γ M es W))
      have A2 := thL es F C h5
      generalize hl : wpl Γ M es W = l at A2
      have nev : PE X (.Call (.Attribute x (bmName m) ap) xs [] cp) tNeverE := ⟨fun _ _ _ _ _ _ z => z.elim⟩
      unfold rBm
      split
      · obtain ⟨y, rfl, a1, s1⟩ := A2.one
        exact pe_dget1 (by omega) O a1 ⟨base _, by rw [s1]; rfl, h3, by rw [s1]; rfl⟩
      · obtain ⟨y, z, rfl, a1, a2, s2⟩ := A2.two
        exact pe_dget2 (by omega) O a1 a2 ⟨base _, by rw [s2]; rfl, h3, by rw [s2]; rfl⟩
      · obtain ⟨y, rfl, a1, s1⟩ := A2.one
        have q := pe_bm PySem.F.plainAttrs_list PySem.F.slot_list_append PySem.F.type_list_append mt_append O (pa_cons a1 pa_nil s1) (base _) (by rw [s1]; rfl) h3 (by rw [s1]; rfl) rfl
        rw [← F.K] at q
        exact q
      · obtain ⟨y, rfl, a1, s1⟩ := A2.one
        have q := pe_bm PySem.F.plainAttrs_list PySem.F.slot_list_extend PySem.F.type_list_extend mt_extend O (pa_cons a1 pa_nil s1) (base _) (by rw [s1]; rfl) h3 (by rw [s1]; rfl) rfl
        rw [← F.K] at q
        exact q
      · exact nev
    exact pt_of (m := .var 0) (sc := sc) fin (fun _ => rfl)
  | .rng tl a, X, sc, ts, W, F, C, e, h => by
    have h0 := inv_rng h
    clear h
    obtain ⟨x, q1, y, q2, z, q3, p, rfl, h⟩ := h0
    simp only [Bool.and_eq_true, decide_eq_true_eq] at h
    obtain ⟨⟨⟨⟨h1, rfl⟩, h3⟩, h4⟩, h5⟩ := h
    obtain ⟨f1, f2, _, _⟩ := free_of F C h3
    obtain ⟨g1, g2, _, _⟩ := free_of F C h4
    have r1 := prg_1 (p := q2) (pos := q3) g1 g2 (thE a F C h5).1 (star_of h5 [] X.env)
    cases tl with
    | true =>
      simp only [if_true] at h1
      subst h1
      exact pt_of (m := .var 0) (sc := sc) (pe_tupRg C.calm f1 f2 r1 rfl) (fun _ => rfl)
    | false =>
      simp only [Bool.false_eq_true, if_false] at h1
      subst h1
      exact pt_of (m := .var 0) (sc := sc) (pe_listRg C.calm f1 f2 r1 rfl) (fun _ => rfl)
  | .comp m t it c own, X, sc, ts, W, F, C, e, h => by
    have h0 := inv_comp h
    clear h
    obtain ⟨x, tg, ix, ifs, s2, p, rfl, h⟩ := h0
    simp only [Bool.and_eq_true] at h
    obtain ⟨⟨⟨⟨h1, h2⟩, h3⟩, h4⟩, h5⟩ := h
    have ok : BlkOk X.N X.env.scope s2 (ownP N own) := by
      rw [C.N, C.sc]
      exact blkOk_by h2
    have q := pe_lc (pos := p) C.calm C.nd (thI it F C h1) ok (fun s H A cl fp => by
        have := thT t (F.blk s H s2 (compEnvC s2 cl A X.env) fp) (C.blk s H s2 A cl fp) h3
        exact this) (fun s H A cl fp => thC c (F.blk s H s2 (compEnvC s2 cl A X.env) fp) (C.blk s H s2 A cl fp) h4)
      (fun s H A cl fp => (thE m (F.blk s H s2 (compEnvC s2 cl A X.env) fp) (C.blk s H s2 A cl fp) h5).1) (fun v => fold_of h1 X.env v)
    rw [own_map] at q
    exact pt_of (m := .var 0) (sc := sc) q (fun _ => rfl)
theorem thEs : ∀ (m : Es) {X : Cx} {sc ts : Scope} {W : WX} (F : Facts X Γ M k) (C : CtxOk X N sc ts W) {es : List Expr}, chks Γ N m sc es = true → PA X es (wps Γ M m W)
  | .nil, X, sc, ts, W, F, C, [], h => pa_nil
  | .nil, X, sc, ts, W, F, C, _ :: _, h => by simp [chks] at h
  | .cons _ _, X, sc, ts, W, F, C, [], h => by simp [chks] at h
  | .cons a r, X, sc, ts, W, F, C, e :: es, h => by
    simp only [chks, Bool.and_eq_true] at h
    exact pa_cons (thE a F C h.1).1 (thEs r F C h.2) (star_of h.1 es X.env)
theorem thL : ∀ (m : Es) {X : Cx} {sc ts : Scope} {W : WX} (F : Facts X Γ M k) (C : CtxOk X N sc ts W) {es : List Expr}, chks Γ N m sc es = true → PEs X es (wpl Γ M m W)
  | .nil, X, sc, ts, W, F, C, [], h => .nil
  | .nil, X, sc, ts, W, F, C, _ :: _, h => by simp [chks] at h
  | .cons _ _, X, sc, ts, W, F, C, [], h => by simp [chks] at h
  | .cons a r, X, sc, ts, W, F, C, e :: es, h => by
    simp only [chks, Bool.and_eq_true] at h
    exact .cons (thE a F C h.1).1 (star_of h.1 es X.env) (thL r F C h.2)
theorem thAnd : ∀ (m : Es) {X : Cx} {sc ts : Scope} {W : WX} (F : Facts X Γ M k) (C : CtxOk X N sc ts W) {es : List Expr}, chks Γ N m sc es = true → ∀ pos, PE X (.BoolOp .And es pos) (wpAnd Γ M m W).e ∧ PW X (.BoolOp .And es pos) (wpAnd Γ M m W).t
  | .nil, X, sc, ts, W, F, C, [], h, pos => ⟨⟨fun _ _ _ _ _ _ z => z.elim⟩, ⟨fun _ _ _ _ _ _ _ z => z.elim⟩⟩
  | .nil, X, sc, ts, W, F, C, _ :: _, h, pos => by simp [chks] at h
  | .cons _ _, X, sc, ts, W, F, C, [], h, pos => by simp [chks] at h
  | .cons a .nil, X, sc, ts, W, F, C, e :: es, h, pos => by
    cases es with
    | cons b r => simp [chks] at h
    | nil =>
      simp only [chks, Bool.and_eq_true] at h
      exact ⟨pe_one (thE a F C h.1).1, pw_and1 (thE a F C h.1).2⟩
  | .cons a (.cons b r), X, sc, ts, W, F, C, e :: es, h, pos => by
    cases es with
    | nil => simp [chks] at h
    | cons f fs =>
      rw [chks] at h
      simp only [Bool.and_eq_true] at h
      obtain ⟨q1, q2⟩ := thAnd (.cons b r) F C h.2 pos
      exact ⟨pe_and (thE a F C h.1).1 q1, pw_and (thE a F C h.1).2 q2⟩
theorem thOr : ∀ (m : Es) {X : Cx} {sc ts : Scope} {W : WX} (F : Facts X Γ M k) (C : CtxOk X N sc ts W) {es : List Expr}, chks Γ N m sc es = true → ∀ pos, PE X (.BoolOp .Or es pos) (wpOr Γ M m W).e ∧ PW X (.BoolOp .Or es pos) (wpOr Γ M m W).t
  | .nil, X, sc, ts, W, F, C, [], h, pos => ⟨⟨fun _ _ _ _ _ _ z => z.elim⟩, ⟨fun _ _ _ _ _ _ _ z => z.elim⟩⟩
  | .nil, X, sc, ts, W, F, C, _ :: _, h, pos => by simp [chks] at h
  | .cons _ _, X, sc, ts, W, F, C, [], h, pos => by simp [chks] at h
  | .cons a .nil, X, sc, ts, W, F, C, e :: es, h, pos => by
    cases es with
    | cons b r => simp [chks] at h
    | nil =>
      simp only [chks, Bool.and_eq_true] at h
      exact ⟨pe_one (thE a F C h.1).1, pw_or1 (thE a F C h.1).2⟩
  | .cons a (.cons b r), X, sc, ts, W, F, C, e :: es, h, pos => by
    cases es with
    | nil => simp [chks] at h
    | cons f fs =>
      rw [chks] at h
      simp only [Bool.and_eq_true] at h
      obtain ⟨q1, q2⟩ := thOr (.cons b r) F C h.2 pos
      exact ⟨pe_or (thE a F C h.1).1 q1, pw_or (thE a F C h.1).2 q2⟩
theorem thPs : ∀ (m : Ps) {X : Cx} {sc ts : Scope} {W : WX} (F : Facts X Γ M k) (C : CtxOk X N sc ts W) {ks : List (Option Expr)} {vs : List Expr}, chkp Γ N m sc ks vs = true → ∀ pos, PPs X pos ks vs (wpp Γ M m W) ∧ ks.all (·.isSome) = true ∧ ks.length = vs.length
  | .nil, X, sc, ts, W, F, C, [], [], h, pos => ⟨pps_nil, rfl, rfl⟩
  | .nil, X, sc, ts, W, F, C, _ :: _, _, h, pos => by simp [chkp] at h
  | .nil, X, sc, ts, W, F, C, [], _ :: _, h, pos => by simp [chkp] at h
  | .cons _ _ _, X, sc, ts, W, F, C, [], _, h, pos => by simp [chkp] at h
  | .cons _ _ _, X, sc, ts, W, F, C, none :: _, _, h, pos => by simp [chkp] at h
  | .cons _ _ _, X, sc, ts, W, F, C, some _ :: _, [], h, pos => by simp [chkp] at h
  | .cons a b r, X, sc, ts, W, F, C, some x :: ks, y :: vs, h, pos => by
    simp only [chkp, Bool.and_eq_true] at h
    obtain ⟨q1, q2, q3⟩ := thPs r F C h.2 pos
    exact ⟨pps_cons (thE a F C h.1.1).1 (thE b F C h.1.2).1 q1, by simp [q2], by simp [q3]⟩
theorem thO : ∀ (m : O) {X : Cx} {sc ts : Scope} {W : WX} (F : Facts X Γ M k) (C : CtxOk X N sc ts W) {e : Option Expr}, chko Γ N m sc e = true → PO X e (wpo Γ M m W)
  | .no, X, sc, ts, W, F, C, none, h => po_none
  | .no, X, sc, ts, W, F, C, some _, h => by simp [chko] at h
  | .yes _, X, sc, ts, W, F, C, none, h => by simp [chko] at h
  | .yes a, X, sc, ts, W, F, C, some e, h => po_some (thE a F C (by simpa [chko] using h)).1
theorem thC : ∀ (m : O) {X : Cx} {sc ts : Scope} {W : WX} (F : Facts X Γ M k) (C : CtxOk X N sc ts W) {es : List Expr}, chkc Γ N m sc es = true → PTs X es (wpc Γ M m W)
  | .no, X, sc, ts, W, F, C, [], h => pts_nil
  | .no, X, sc, ts, W, F, C, _ :: _, h => by simp [chkc] at h
  | .yes _, X, sc, ts, W, F, C, [], h => by simp [chkc] at h
  | .yes _, X, sc, ts, W, F, C, _ :: _ :: _, h => by simp [chkc] at h
  | .yes a, X, sc, ts, W, F, C, [e], h => pts_one (thE a F C (by simpa [chkc] using h)).2
theorem thI : ∀ (m : I) {X : Cx} {sc ts : Scope} {W : WX} (F : Facts X Γ M k) (C : CtxOk X N sc ts W) {tg e : Expr}, chkI Γ N m sc tg e = true → PI X tg e (wpI Γ M m W)
  | .val a, X, sc, ts, W, F, C, tg, e, h => by
    rw [chkI] at h
    have q := PI.or (pi_list (tg := tg) (thE a F C h).1) (pi_tup (thE a F C h).1)
    rw [← F.K] at q
    exact q
  | .rng1 a, X, sc, ts, W, F, C, tg, e, h => by
    have h0 := inv_rng1 h
    clear h
    obtain ⟨q, y, p, rfl, h⟩ := h0
    simp only [Bool.and_eq_true] at h
    obtain ⟨f1, f2, _, _⟩ := free_of F C h.1
    exact pi_range1 f1 f2 (pa_cons (thE a F C h.2).1 pa_nil (star_of h.2 [] X.env)) (star_of h.2 [] X.env)
  | .rng2 a b, X, sc, ts, W, F, C, tg, e, h => by
    have h0 := inv_rng2 h
    clear h
    obtain ⟨q, y, z, p, rfl, h⟩ := h0
    simp only [Bool.and_eq_true] at h
    obtain ⟨f1, f2, _, _⟩ := free_of F C h.1.1
    have s2 : starEach [z] X.env = [(false, eval z X.env)] := star_of h.2 [] X.env
    have s1 : starEach [y, z] X.env = [(false, eval y X.env), (false, eval z X.env)] := by rw [star_of h.1.2, s2]
    exact pi_range2 f1 f2 (pa_cons (thE a F C h.1.2).1 (pa_cons (thE b F C h.2).1 pa_nil s2) (star_of h.1.2 [z] X.env)) s1 s2
  | .enum a, X, sc, ts, W, F, C, tg, e, h => by
    have h0 := inv_enum h
    clear h
    obtain ⟨el, kk, tp, q, y, p, rfl, rfl, h⟩ := h0
    simp only [Bool.and_eq_true] at h
    obtain ⟨f1, f2, _, _⟩ := free_of F C h.1
    have r := pi_enum (elts := el) (kk := kk) (tpos := tp) (p := q) (pos := p) f1 f2 (pa_cons (thE a F C h.2).1 pa_nil (star_of h.2 [] X.env)) (star_of h.2 [] X.env)
    rw [← F.K] at r
    exact r
  | .zip a b, X, sc, ts, W, F, C, tg, e, h => by
    have h0 := inv_zip h
    clear h
    obtain ⟨el, kk, tp, q, y, z, p, rfl, rfl, h⟩ := h0
    simp only [Bool.and_eq_true] at h
    obtain ⟨f1, f2, _, _⟩ := free_of F C h.1.1
    have s2 : starEach [z] X.env = [(false, eval z X.env)] := star_of h.2 [] X.env
    have r := RZ.pi_zipA (elts := el) (kk := kk) (tpos := tp) (p := q) (pos := p) f1 f2 (pa_cons (thE a F C h.1.2).1 (pa_cons (thE b F C h.2).1 pa_nil s2) (star_of h.1.2 [z] X.env)) (star_of h.1.2 [z] X.env) (by rw [s2]; rfl)
    rw [← F.K] at r
    exact r
end
end
end MP

set_option Elab.async false
set_option linter.all false
set_option maxRecDepth 100000
set_option maxHeartbeats 4000000
namespace MP
open PySem PySem.Spec PyProof.Rows L2
/-- how a stored thing is kept: as a value, or as one's own list or dict -/
inductive Al where
  | val | own | obj
  deriving DecidableEq
mutual
inductive S where
  | set (i : Nat) (e : E) (al : Al)
  | tset (t : T) (e : E)
  | par (i j : Nat) (a b : E)
  | setf (c j : Nat) (o e : E) (al : Al)
  | seti (o i e : E)
  | setsl (o lo hi e : E)
  | aug (i : Nat) (op : Bop) (e : E)
  | augf (c j : Nat) (o : E) (op : Bop) (e : E)
  | augi (o i : E) (op : Bop) (e : E)
  | ex (e : E)
  | ret (e : E)
  | retN
  | iff (c : E) (a b : Sb)
  | whl (c : E) (b : Sb)
  | for (t : T) (it : I) (b : Sb)
  | brk
  | cnt
  | pass
  | deli (o i : E)
inductive Sb where
  | nil
  | cons (s : S) (r : Sb)
end
/-! ### in-place operators -/
section
variable {X : Cx}
theorem InOp.or {op : Operator} {r q : V → V → Hp → VK → Prop} (h : InOp X op r) (k : InOp X op q) : InOp X op (fun x y H Q => r x y H Q ∨ q x y H Q) :=
  fun pins s σ H x y u v Q I rx ry z => z.elim (h pins s σ H x y u v Q I rx ry) (k pins s σ H x y u v Q I rx ry)
theorem inop_of {op : Operator} {r : R2} (h : OpR X (inplaceOp op) r) : InOp X op r := h
def rIn2 : Bop → R2
  | .add => rI0 fun i j => .int (i + j)
  | .sub => rI0 fun i j => .int (i - j)
  | .mul => rI CMul fun i j => .int (i * j)
  | .shl => rI CPow fun i j => .int (i * 2 ^ j.toNat)
  | .shr => rI (fun _ j => 0 ≤ j) fun i j => .int (i / 2 ^ j.toNat)
  | .band => rI0 fun i j => .int (Builtin.bitAnd i j)
  | .bor => rI0 fun i j => .int (Builtin.bitOr i j)
  | .bxor => rI0 fun i j => .int (Builtin.bitXor i j)
  | _ => rNoOp
theorem op_in : ∀ op : Bop, OpR X (inplaceOp op.op) (rIn2 op)
  | .add => iop_add
  | .sub => iop_sub
  | .mul => iop_mul
  | .shl => iop_shl
  | .shr => iop_shr
  | .band => iop_and
  | .bor => iop_or
  | .bxor => iop_xor
  | .fdiv => op_no
  | .mod => op_no
  | .pow => op_no
/-- o[lo:hi] = ys, a tracked list -/
def sSl (to tl th te : TE) : TS := fun D σ H => te σ H fun y H1 => to σ H1 fun x H2 => tl σ H2 fun a H3 => th σ H3 fun c H4 => ∃ l b xs ys i j, y = .ref b ∧ x = .ref l ∧ a = .int i ∧ c = .int j ∧ H4 l = some (.lst xs) ∧ (H4 b = some (.lst ys) ∨ H4 b = some (.tup ys)) ∧ l ≠ b ∧ 0 ≤ i ∧ i ≤ j ∧ j ≤ (xs.length : Int) ∧
  xs.length + ys.length ≤ sizeLine ∧ D.nx σ (upd H4 l (.lst (xs.take i.toNat ++ ys ++ xs.drop j.toNat)))
end
mutual
def wpS (Γ : Tab) (M : Mo) : S → WX → TS
  | .set i e _, W => tAsg (wp Γ M e W).e (gName i)
  | .tset t e, W => tAsg (wp Γ M e W).e (wpG Γ M t)
  | .par i j a b, W => tPar i j (tCons (wp Γ M a W).e (tCons (wp Γ M b W).e tNil))
  | .setf c j o e _, W => sFld M.K (wp Γ M o W).e (wp Γ M e W).e ((Γ.cl c).fields.getD j "")
  | .seti o i e, W => fun D σ H => tAsg (wp Γ M e W).e (gSub (wp Γ M o W).e (wp Γ M i W).e rSetL) D σ H ∨ sDPut (wp Γ M o W).e (wp Γ M i W).e (wp Γ M e W).e D σ H
  | .setsl _ _ _ _, _ => tNever
  | .aug i op e, W => tAug i (wp Γ M e W).e (rIn2 op)
  | .augf c j o op e, W => sFldAug M.K (wp Γ M o W).e (wp Γ M e W).e (rIn2 op) ((Γ.cl c).fields.getD j "")
  | .augi o i op e, W => sDAug (wp Γ M o W).e (wp Γ M i W).e (wp Γ M e W).e (rIn2 op)
  | .ex e, W => tDrop (wp Γ M e W).e
  | .ret e, W => tRet (wp Γ M e W).e
  | .retN, _ => tRetN
  | .iff c a b, W => tIfS (wp Γ M c W).t (wpB Γ M a W) (wpB Γ M b W)
  | .whl c b, W => tWhile (wp Γ M c W).t (wpB Γ M b W)
  | .for t it b, W => tFor (wpI Γ M it W) (wpG Γ M t) (wpB Γ M b W)
  | .brk, _ => tBreak
  | .cnt, _ => tCont
  | .pass, _ => tNext
  | .deli o i, W => sDDel (wp Γ M o W).e (wp Γ M i W).e
def wpB (Γ : Tab) (M : Mo) : Sb → WX → TS
  | .nil, _ => tNext
  | .cons s .nil, W => wpS Γ M s W
  | .cons s r, W => tSeq (wpS Γ M s W) (wpB Γ M r W)
end
/-- a comprehension stored into a name on its own line is taken by another rule -/
def swB (sc : Scope) (x : Str) (p2 : Pos) : Expr → Bool
  | .ListComp _ gs s2 lp => match sc.names.lookup x with
    | some .local => (match gs with | [⟨_, _, _, 0⟩] => true | _ => false) && (p2.line == lp.line) && !(s2.names.any fun (n, k) => n == x && (k == .local || k == .cell))
    | _ => true
  | _ => true
def notComp : Expr → Bool
  | .ListComp _ _ _ _ => false
  | _ => true
def notTup : Expr → Bool
  | .Tuple _ _ _ => false
  | _ => true
mutual
def chkS (Γ : Tab) (N : List Str) : S → Scope → Stmt → Bool
  | .set i e _, sc, .Assign [.Name x p2] v _ => decide (N[i]? = some x) && locB sc x && chk Γ N e sc v && swB sc x p2 v
  | .tset t e, sc, .Assign [.Tuple xs k p2] v _ => chkT N t sc (.Tuple xs k p2) && chk Γ N e sc v && notTup v
  | .par i j a b, sc, .Assign [.Tuple [.Name x p1, .Name y p2] _ _] (.Tuple [u, v] _ _) _ => decide (N[i]? = some x) && decide (N[j]? = some y) && decide (i ≠ j) && decide (sc.names.lookup x = some .local) && decide (sc.names.lookup y = some .local) && !(x == y) && (p1.line == p2.line) && !(foldedForSure 8 u && foldedForSure 8 v) && !(constantsAlone 8 u && constantsAlone 8 v) && chk Γ N a sc u && chk Γ N b sc v
  | .setf c j o e _, sc, .Assign [.Attribute x f _] v _ => decide (c < Γ.clss.length) && decide (j < (Γ.cl c).fields.length) && decide ((Γ.cl c).fields.getD j "" = f) && chk Γ N o sc x && chk Γ N e sc v
  | .seti o i e, sc, .Assign [.Subscript x y _] v _ => chk Γ N o sc x && chk Γ N i sc y && chk Γ N e sc v
  | .aug i op e, sc, .AugAssign (.Name x _) o v _ => decide (N[i]? = some x) && locB sc x && decide (op.op = o) && chk Γ N e sc v
  | .augf c j o op e, sc, .AugAssign (.Attribute x f _) q v _ => decide (c < Γ.clss.length) && decide (j < (Γ.cl c).fields.length) && decide ((Γ.cl c).fields.getD j "" = f) && decide (op.op = q) && chk Γ N o sc x && chk Γ N e sc v
  | .augi o i op e, sc, .AugAssign (.Subscript x y _) q v _ => decide (op.op = q) && chk Γ N o sc x && chk Γ N i sc y && chk Γ N e sc v
  | .ex e, sc, .Expr v _ => chk Γ N e sc v && notComp v
  | .ret e, sc, .Return (some v) _ => chk Γ N e sc v
  | .retN, _, .Return none _ => true
  | .iff c a b, sc, .If x y z _ => chk Γ N c sc x && chkB Γ N a sc y && chkB Γ N b sc z
  | .whl c b, sc, .While x y [] _ => chk Γ N c sc x && chkB Γ N b sc y
  | .for t it b, sc, .For tg ix body [] _ => chkT N t sc tg && chkI Γ N it sc tg ix && chkB Γ N b sc body
  | .brk, _, .Break _ => true
  | .cnt, _, .Continue _ => true
  | .pass, _, .Pass _ => true
  | .deli o i, sc, .Delete [.Subscript x y _] _ => chk Γ N o sc x && chk Γ N i sc y
  | _, _, _ => false
def chkB (Γ : Tab) (N : List Str) : Sb → Scope → List Stmt → Bool
  | .nil, _, [] => true
  | .cons s r, sc, x :: xs => chkS Γ N s sc x && chkB Γ N r sc xs
  | _, _, _ => false
end
end MP

set_option Elab.async false
set_option linter.all false
set_option maxRecDepth 100000
set_option maxHeartbeats 4000000
namespace MP
open PySem PySem.Spec PyProof.Rows L2
section
variable {Γ : Tab} {M : Mo} {k : Nat} {N : List Str}

section
variable {sc : Scope} {s : Stmt}
theorem inv_Sset {i : Nat} {m : E} {al : Al} (h : chkS Γ N (.set i m al) sc s = true) : ∃ x p2 v p, s = (.Assign [.Name x p2] v p) ∧ (decide (N[i]? = some x) && locB sc x && chk Γ N m sc v && swB sc x p2 v) = true := by
  rw [chkS.eq_def] at h
  split at h <;> first | (exact absurd h (by decide)) | (simp_all; done) | (injections; subst_vars; exact ⟨_, _, _, _, rfl, h⟩) | (exact ⟨_, _, _, _, rfl, rfl⟩)
theorem inv_Stset {t : T} {m : E} (h : chkS Γ N (.tset t m) sc s = true) : ∃ xs k p2 v p, s = (.Assign [.Tuple xs k p2] v p) ∧ (chkT N t sc (.Tuple xs k p2) && chk Γ N m sc v && notTup v) = true := by
  rw [chkS.eq_def] at h
  split at h <;> first | (exact absurd h (by decide)) | (simp_all; done) | (injections; subst_vars; exact ⟨_, _, _, _, _, rfl, h⟩) | (exact ⟨_, _, _, _, _, rfl, rfl⟩)
theorem inv_Spar {i j : Nat} {a b : E} (h : chkS Γ N (.par i j a b) sc s = true) : ∃ x p1 y p2 q1 q2 u v q3 q4 p, s = (.Assign [.Tuple [.Name x p1, .Name y p2] q1 q2] (.Tuple [u, v] q3 q4) p) ∧ (decide (N[i]? = some x) && decide (N[j]? = some y) && decide (i ≠ j) && decide (sc.names.lookup x = some .local) && decide (sc.names.lookup y = some .local) && !(x == y) && (p1.line == p2.line) && !(foldedForSure 8 u && foldedForSure 8 v) && !(constantsAlone 8 u && constantsAlone 8 v) && chk Γ N a sc u && chk Γ N b sc v) = true := by
  rw [chkS.eq_def] at h
  split at h <;> first | (exact absurd h (by decide)) | (simp_all; done) | (injections; subst_vars; exact ⟨_, _, _, _, _, _, _, _, _, _, _, rfl, h⟩) | (exact ⟨_, _, _, _, _, _, _, _, _, _, _, rfl, rfl⟩)
theorem inv_Ssetf {c j : Nat} {o m : E} {al : Al} (h : chkS Γ N (.setf c j o m al) sc s = true) : ∃ x f q v p, s = (.Assign [.Attribute x f q] v p) ∧ (decide (c < Γ.clss.length) && decide (j < (Γ.cl c).fields.length) && decide ((Γ.cl c).fields.getD j "" = f) && chk Γ N o sc x && chk Γ N m sc v) = true := by
  rw [chkS.eq_def] at h
  split at h <;> first | (exact absurd h (by decide)) | (simp_all; done) | (injections; subst_vars; exact ⟨_, _, _, _, _, rfl, h⟩) | (exact ⟨_, _, _, _, _, rfl, rfl⟩)
theorem inv_Sseti {o i m : E} (h : chkS Γ N (.seti o i m) sc s = true) : ∃ x y q v p, s = (.Assign [.Subscript x y q] v p) ∧ (chk Γ N o sc x && chk Γ N i sc y && chk Γ N m sc v) = true := by
  rw [chkS.eq_def] at h
  split at h <;> first | (exact absurd h (by decide)) | (simp_all; done) | (injections; subst_vars; exact ⟨_, _, _, _, _, rfl, h⟩) | (exact ⟨_, _, _, _, _, rfl, rfl⟩)
theorem inv_Saug {i : Nat} {op : Bop} {m : E} (h : chkS Γ N (.aug i op m) sc s = true) : ∃ x q o v p, s = (.AugAssign (.Name x q) o v p) ∧ (decide (N[i]? = some x) && locB sc x && decide (op.op = o) && chk Γ N m sc v) = true := by
  rw [chkS.eq_def] at h
  split at h <;> first | (exact absurd h (by decide)) | (simp_all; done) | (injections; subst_vars; exact ⟨_, _, _, _, _, rfl, h⟩) | (exact ⟨_, _, _, _, _, rfl, rfl⟩)
theorem inv_Saugf {c j : Nat} {o : E} {op : Bop} {m : E} (h : chkS Γ N (.augf c j o op m) sc s = true) : ∃ x f r q v p, s = (.AugAssign (.Attribute x f r) q v p) ∧ (decide (c < Γ.clss.length) && decide (j < (Γ.cl c).fields.length) && decide ((Γ.cl c).fields.getD j "" = f) && decide (op.op = q) && chk Γ N o sc x && chk Γ N m sc v) = true := by
  rw [chkS.eq_def] at h
  split at h <;> first | (exact absurd h (by decide)) | (simp_all; done) | (injections; subst_vars; exact ⟨_, _, _, _, _, _, rfl, h⟩) | (exact ⟨_, _, _, _, _, _, rfl, rfl⟩)
theorem inv_Saugi {o i : E} {op : Bop} {m : E} (h : chkS Γ N (.augi o i op m) sc s = true) : ∃ x y r q v p, s = (.AugAssign (.Subscript x y r) q v p) ∧ (decide (op.op = q) && chk Γ N o sc x && chk Γ N i sc y && chk Γ N m sc v) = true := by
  rw [chkS.eq_def] at h
  split at h <;> first | (exact absurd h (by decide)) | (simp_all; done) | (injections; subst_vars; exact ⟨_, _, _, _, _, _, rfl, h⟩) | (exact ⟨_, _, _, _, _, _, rfl, rfl⟩)
theorem inv_Sex {m : E} (h : chkS Γ N (.ex m) sc s = true) : ∃ v p, s = (.Expr v p) ∧ (chk Γ N m sc v && notComp v) = true := by
  rw [chkS.eq_def] at h
  split at h <;> first | (exact absurd h (by decide)) | (simp_all; done) | (injections; subst_vars; exact ⟨_, _, rfl, h⟩) | (exact ⟨_, _, rfl, rfl⟩)
theorem inv_Sret {m : E} (h : chkS Γ N (.ret m) sc s = true) : ∃ v p, s = (.Return (some v) p) ∧ (chk Γ N m sc v) = true := by
  rw [chkS.eq_def] at h
  split at h <;> first | (exact absurd h (by decide)) | (simp_all; done) | (injections; subst_vars; exact ⟨_, _, rfl, h⟩) | (exact ⟨_, _, rfl, rfl⟩)
theorem inv_SretN  (h : chkS Γ N .retN sc s = true) : ∃ p, s = (.Return none p) ∧ (true) = true := by
  rw [chkS.eq_def] at h
  split at h <;> first | (exact absurd h (by decide)) | (simp_all; done) | (injections; subst_vars; exact ⟨_, rfl, h⟩) | (exact ⟨_, rfl, rfl⟩)
theorem inv_Siff {c : E} {a b : Sb} (h : chkS Γ N (.iff c a b) sc s = true) : ∃ x y z p, s = (.If x y z p) ∧ (chk Γ N c sc x && chkB Γ N a sc y && chkB Γ N b sc z) = true := by
  rw [chkS.eq_def] at h
  split at h <;> first | (exact absurd h (by decide)) | (simp_all; done) | (injections; subst_vars; exact ⟨_, _, _, _, rfl, h⟩) | (exact ⟨_, _, _, _, rfl, rfl⟩)
theorem inv_Swhl {c : E} {b : Sb} (h : chkS Γ N (.whl c b) sc s = true) : ∃ x y p, s = (.While x y [] p) ∧ (chk Γ N c sc x && chkB Γ N b sc y) = true := by
  rw [chkS.eq_def] at h
  split at h <;> first | (exact absurd h (by decide)) | (simp_all; done) | (injections; subst_vars; exact ⟨_, _, _, rfl, h⟩) | (exact ⟨_, _, _, rfl, rfl⟩)
theorem inv_Sfor {t : T} {it : I} {b : Sb} (h : chkS Γ N (.for t it b) sc s = true) : ∃ tg ix body p, s = (.For tg ix body [] p) ∧ (chkT N t sc tg && chkI Γ N it sc tg ix && chkB Γ N b sc body) = true := by
  rw [chkS.eq_def] at h
  split at h <;> first | (exact absurd h (by decide)) | (simp_all; done) | (injections; subst_vars; exact ⟨_, _, _, _, rfl, h⟩) | (exact ⟨_, _, _, _, rfl, rfl⟩)
theorem inv_Sbrk  (h : chkS Γ N .brk sc s = true) : ∃ p, s = (.Break p) ∧ (true) = true := by
  rw [chkS.eq_def] at h
  split at h <;> first | (exact absurd h (by decide)) | (simp_all; done) | (injections; subst_vars; exact ⟨_, rfl, h⟩) | (exact ⟨_, rfl, rfl⟩)
theorem inv_Scnt  (h : chkS Γ N .cnt sc s = true) : ∃ p, s = (.Continue p) ∧ (true) = true := by
  rw [chkS.eq_def] at h
  split at h <;> first | (exact absurd h (by decide)) | (simp_all; done) | (injections; subst_vars; exact ⟨_, rfl, h⟩) | (exact ⟨_, rfl, rfl⟩)
theorem inv_Spass  (h : chkS Γ N .pass sc s = true) : ∃ p, s = (.Pass p) ∧ (true) = true := by
  rw [chkS.eq_def] at h
  split at h <;> first | (exact absurd h (by decide)) | (simp_all; done) | (injections; subst_vars; exact ⟨_, rfl, h⟩) | (exact ⟨_, rfl, rfl⟩)
theorem inv_Sdeli {o i : E} (h : chkS Γ N (.deli o i) sc s = true) : ∃ x y q p, s = (.Delete [.Subscript x y q] p) ∧ (chk Γ N o sc x && chk Γ N i sc y) = true := by
  rw [chkS.eq_def] at h
  split at h <;> first | (exact absurd h (by decide)) | (simp_all; done) | (injections; subst_vars; exact ⟨_, _, _, _, rfl, h⟩) | (exact ⟨_, _, _, _, rfl, rfl⟩)
end
/-- a def's own context (not a block's) -/
structure CtxS (X : Cx) (N : List Str) (sc : Scope) (W : WX) : Prop where
  c : CtxOk X N sc sc W
  fk : sc.kind = .function
  po : PassesOwn (model X.prog X.w) X.A X.env X.xe
theorem sw_plain {m : E} {sc : Scope} {v : Expr} (h : chk Γ N m sc v = true) (hv : ∀ a b c d, v ≠ .ListComp a b c d) (t : Option Expr) (l : Nat) (env : Env) : swapsWith v t l env = pure false := by
  cases v <;> first | rfl | exact absurd rfl (hv _ _ _ _) | (cases m <;> simp [chk] at h)
theorem sw_other {v : Expr} {t : Expr} (ht : ∀ x p, t ≠ .Name x p) (l : Nat) (env : Env) : swapsWith v (some t) l env = pure false := by
  cases t <;> first | exact absurd rfl (ht _ _) | (cases v <;> rfl)
theorem as_one {t : Expr} (ht : ∀ a b, t ≠ .Starred a b) (env : Env) : (assignEach [t] env).map (·.2) = [assign t env] := by
  cases t <;> first | rfl | exact absurd rfl (ht _ _)
theorem st_none {t v : Expr} (hv : notTup v = true) (env : Env) : swappedStores [t] v env = pure none := by
  unfold swappedStores
  cases t <;> cases v <;> first | rfl | (simp [notTup] at hv)
theorem st_one {t v : Expr} (ht : ∀ a b c, t ≠ .Tuple a b c) (ht2 : ∀ a b, t ≠ .List a b) (env : Env) : swappedStores [t] v env = pure none := by
  unfold swappedStores
  cases t <;> first | exact absurd rfl (ht _ _ _) | exact absurd rfl (ht2 _ _) | rfl
theorem sw_sole {t v : Expr} {l : Nat} {env : Env} (h : swapsWith v (some t) l env = pure false) : swapsWithSole [t] v l env = pure false := h
theorem sub_assign {o i : Expr} {pos : Pos} {m : E} {sc : Scope} (hi : chk Γ N m sc i = true) (env : Env) : ∀ v, assign (.Subscript o i pos) env v = (do
      let ov ← holding [v] (eval o env)
      let iv ← holding [v, ov] (eval i env)
      standAt pos
      holding [v, ov, iv] (setItem ov iv v)
      release [v, ov, iv] []) := by
  intro v
  cases i <;> first | rfl | (cases m <;> simp [chk] at hi)
theorem aug_store {i : Expr} {m : E} {sc : Scope} (hi : chk Γ N m sc i = true) : ∀ ov iv new, augStore i ov iv new = (do holding [new, ov, iv] (setItem ov iv new); release [new, ov, iv] []; pure .next) := by
  intro ov iv new
  cases i <;> first | rfl | (cases m <;> simp [chk] at hi)
theorem blockKind_fn {X : Cx} {sc : Scope} {W : WX} (C : CtxS X N sc W) : X.env.blockKind = .function := by
  unfold Env.blockKind
  rw [C.c.sc, C.fk]
  rfl
def isStar : Expr → Bool
  | .Starred _ _ => true
  | _ => false
theorem star_false {m : E} {sc : Scope} {u : Expr} (h : chk Γ N m sc u = true) : isStar u = false := by
  cases u <;> first | rfl | (cases m <;> simp [chk] at h)
mutual
theorem thS : ∀ (m : S) {X : Cx} {sc : Scope} {W : WX} (F : Facts X Γ M k) (C : CtxS X N sc W) {s : Stmt}, chkS Γ N m sc s = true → PS X s (wpS Γ M m W)
  | .set i e al, X, sc, W, F, C, s, h => by
    have h0 := inv_Sset h
    clear h
    obtain ⟨x, p2, v, p, rfl, h⟩ := h0
    simp only [Bool.and_eq_true, decide_eq_true_eq] at h
    obtain ⟨⟨⟨h1, h2⟩, h3⟩, h4⟩ := h
    obtain ⟨l1, l2⟩ := C.c.fn x h2
    by_cases hv : ∃ a b c d, v = .ListComp a b c d
    · obtain ⟨el, gs, s2, lp, rfl⟩ := hv
      by_cases hl : sc.names.lookup x = some .local
      · simp only [swB, hl, Bool.and_eq_true] at h4
        obtain ⟨⟨g1, g2⟩, g3⟩ := h4
        cases e with
        | comp m t it c own =>
          have h0 := inv_comp h3
          clear h3
          obtain ⟨x', tg, ix, ifs, s3, p', e', h⟩ := h0
          cases e'
          simp only [Bool.and_eq_true] at h
          obtain ⟨⟨⟨⟨k1, k2⟩, k3⟩, k4⟩, k5⟩ := h
          have ok : BlkOk X.N X.env.scope s2 (ownP N own) := by
            rw [C.c.N, C.c.sc]
            exact blkOk_by k2
          have hk : X.env.scope.kind = .function := by rw [C.c.sc]; exact C.fk
          have hx : X.env.scope.names.lookup x = some .local := by rw [C.c.sc]; exact hl
          have q := ps_setLc (pos := lp) (spos := p) (py := p2) C.c.calm C.c.nd (by rw [C.c.N]; exact h1) hx
            (by
              have ky : X.env.kindOf x = some .local := hx
              have hb : X.env.blockKind = .function := blockKind_fn C
              have g3' : (s2.names.any fun (n, k) => n == x && (k == .local || k == .cell)) = false := by simpa using g3
              unfold swapsWith
              simp only [hb, ky, g3', Expr.pos, g2]
              rfl)
            (thI it F C.c k1) ok (fun s H A cl fp => thT t (F.blk s H s2 (compEnvC s2 cl A X.env) fp) (C.c.blk s H s2 A cl fp) k3)
            (fun s H A cl fp => thC c (F.blk s H s2 (compEnvC s2 cl A X.env) fp) (C.c.blk s H s2 A cl fp) k4)
            (fun s H A cl fp => (thE m (F.blk s H s2 (compEnvC s2 cl A X.env) fp) (C.c.blk s H s2 A cl fp) k5).1) (fun v => fold_of k1 X.env v)
          rw [own_map] at q
          exact q
        | _ => simp [chk] at h3
      · refine ps_set C.c.nd (by rw [C.c.N]; exact h1) l1 (thE e F C.c h3).1 ?_ l2
        have hk : (X.env.kindOf x == some .local) = false := by
          show (X.env.scope.names.lookup x == some .local) = false
          rw [C.c.sc]
          simpa using hl
        unfold swapsWith
        simp only [hk, Bool.and_false, Bool.false_and]
    · exact ps_set C.c.nd (by rw [C.c.N]; exact h1) l1 (thE e F C.c h3).1 (sw_plain h3 (fun a b c d z => hv ⟨a, b, c, d, z⟩) _ _ _) l2
  | .tset t e, X, sc, W, F, C, s, h => by
    have h0 := inv_Stset h
    clear h
    obtain ⟨xs, k, p2, v, p, rfl, h⟩ := h0
    simp only [Bool.and_eq_true] at h
    obtain ⟨⟨h1, h2⟩, h3⟩ := h
    exact ps_asg (thE e F C.c h2).1 (thT t F C.c h1) (sw_sole (sw_other (fun _ _ => Expr.noConfusion) _ _)) (st_none h3 _) rfl
  | .par i j a b, X, sc, W, F, C, s, h => by
    have h0 := inv_Spar h
    clear h
    obtain ⟨x, p1, y, p2, q1, q2, u, v, q3, q4, p, rfl, h⟩ := h0
    simp only [Bool.and_eq_true, decide_eq_true_eq, Bool.not_eq_true'] at h
    obtain ⟨⟨⟨⟨⟨⟨⟨⟨⟨⟨h1, h2⟩, h3⟩, h4⟩, h5⟩, h6⟩, h7⟩, h8⟩, h9⟩, ha⟩, hb⟩ := h
    have kx : X.env.scope.names.lookup x = some .local := by rw [C.c.sc]; exact h4
    have ky : X.env.scope.names.lookup y = some .local := by rw [C.c.sc]; exact h5
    have bk := blockKind_fn C
    refine ps_par C.c.calm C.c.nd (by rw [C.c.N]; exact h1) (by rw [C.c.N]; exact h2) h3 kx ky (pa_cons (thE a F C.c ha).1 (pa_cons (thE b F C.c hb).1 pa_nil (star_of hb [] X.env)) (star_of ha [v] X.env)) ?_ rfl
    have kx' : X.env.kindOf x = some .local := kx
    have ky' : X.env.kindOf y = some .local := ky
    have su := star_false ha
    have sv := star_false hb
    have er : ([x, y] : List Str).eraseDups = [x, y] := by
      have hne : (x == y) = false := h6
      have hne' : (y == x) = false := beq_eq_false_iff_ne.mpr (Ne.symm (beq_eq_false_iff_ne.mp hne))
      simp [List.eraseDups_cons, hne, hne']
    unfold swappedStores
    have h7' : (p2.line == p1.line) = true := by
      have := beq_iff_eq.mp h7
      simp [this]
    simp only [bk, List.any_cons, List.any_nil, Bool.or_false, List.filterMap_cons, List.filterMap_nil, kx', ky', Expr.pos, List.head?_cons, Option.map_some, Option.getD_some, h7, h7', List.all_cons, List.all_nil, Bool.and_true, h8, h9, er, beq_self_eq_true, if_true, List.length_cons, List.length_nil]
    clear h8 h9 ha hb
    simp [er]
    intro hh
    exfalso
    rcases hh with hh | hh
    · cases u <;> simp [isStar] at hh su
    · cases v <;> simp [isStar] at hh sv
  | .setf c j o e al, X, sc, W, F, C, s, h => by
    have h0 := inv_Ssetf h
    clear h
    obtain ⟨x, f, q, v, p, rfl, h⟩ := h0
    simp only [Bool.and_eq_true, decide_eq_true_eq] at h
    obtain ⟨⟨⟨⟨_, _⟩, rfl⟩, h4⟩, h5⟩ := h
    show PS X _ (sFld M.K _ _ _)
    rw [F.K]
    exact ps_fld (thE o F C.c h4).1 (thE e F C.c h5).1 (sw_other (fun _ _ => Expr.noConfusion) _ _)
  | .seti o i e, X, sc, W, F, C, s, h => by
    have h0 := inv_Sseti h
    clear h
    obtain ⟨x, y, q, v, p, rfl, h⟩ := h0
    simp only [Bool.and_eq_true] at h
    obtain ⟨⟨h1, h2⟩, h3⟩ := h
    have u := F.u
    exact PS.or (ps_asg (thE e F C.c h3).1 (pg_sub (thE o F C.c h1).1 (thE i F C.c h2).1 set_list (sub_assign h2 X.env)) (sw_sole (sw_other (fun _ _ => Expr.noConfusion) _ _)) (st_one (fun _ _ _ => Expr.noConfusion) (fun _ _ => Expr.noConfusion) _) rfl)
      (ps_dput (by omega) (thE o F C.c h1).1 (thE i F C.c h2).1 (thE e F C.c h3).1 (sw_other (fun _ _ => Expr.noConfusion) _ _))
  | .setsl o lo hi e, X, sc, W, F, C, s, h => ps_never
  | .aug i op e, X, sc, W, F, C, s, h => by
    have h0 := inv_Saug h
    clear h
    obtain ⟨x, q, o, v, p, rfl, h⟩ := h0
    simp only [Bool.and_eq_true, decide_eq_true_eq] at h
    obtain ⟨⟨⟨h1, h2⟩, rfl⟩, h3⟩ := h
    obtain ⟨l1, l2⟩ := C.c.fn _ h2
    exact ps_aug C.c.nd (by rw [C.c.N]; exact h1) l1 (thE e F C.c h3).1 (op_in op) l2
  | .augf c j o op e, X, sc, W, F, C, s, h => by
    have h0 := inv_Saugf h
    clear h
    obtain ⟨x, f, r, q, v, p, rfl, h⟩ := h0
    simp only [Bool.and_eq_true, decide_eq_true_eq] at h
    obtain ⟨⟨⟨⟨⟨_, _⟩, rfl⟩, rfl⟩, h4⟩, h5⟩ := h
    show PS X _ (sFldAug M.K _ _ _ _)
    rw [F.K]
    exact ps_fldaug (thE o F C.c h4).1 (thE e F C.c h5).1 (inop_of (op_in op))
  | .augi o i op e, X, sc, W, F, C, s, h => by
    have h0 := inv_Saugi h
    clear h
    obtain ⟨x, y, r, q, v, p, rfl, h⟩ := h0
    simp only [Bool.and_eq_true, decide_eq_true_eq] at h
    obtain ⟨⟨⟨rfl, h1⟩, h2⟩, h3⟩ := h
    have u := F.u
    exact ps_daug (by omega) (thE o F C.c h1).1 (thE i F C.c h2).1 (thE e F C.c h3).1 (inop_of (op_in op)) (aug_store h2)
  | .ex e, X, sc, W, F, C, s, h => by
    have h0 := inv_Sex h
    clear h
    obtain ⟨v, p, rfl, h⟩ := h0
    simp only [Bool.and_eq_true] at h
    exact ps_expr (thE e F C.c h.1).1 (sw_plain h.1 (fun a b c d z => by rw [z] at h; simp [notComp] at h) _ _ _)
  | .ret e, X, sc, W, F, C, s, h => by
    have h0 := inv_Sret h
    clear h
    obtain ⟨v, p, rfl, h⟩ := h0
    exact ps_ret (thE e F C.c h).1
  | .retN, X, sc, W, F, C, s, h => by
    have h0 := inv_SretN h
    clear h
    obtain ⟨p, rfl, h⟩ := h0
    exact ps_retN
  | .iff c a b, X, sc, W, F, C, s, h => by
    have h0 := inv_Siff h
    clear h
    obtain ⟨x, y, z, p, rfl, h⟩ := h0
    simp only [Bool.and_eq_true] at h
    exact ps_if (thE c F C.c h.1.1).2 (thB a F C h.1.2) (thB b F C h.2)
  | .whl c b, X, sc, W, F, C, s, h => by
    have h0 := inv_Swhl h
    clear h
    obtain ⟨x, y, p, rfl, h⟩ := h0
    simp only [Bool.and_eq_true] at h
    exact ps_while C.po (thE c F C.c h.1).2 (thB b F C h.2)
  | .for t it b, X, sc, W, F, C, s, h => by
    have h0 := inv_Sfor h
    clear h
    obtain ⟨tg, ix, body, p, rfl, h⟩ := h0
    simp only [Bool.and_eq_true] at h
    exact ps_for C.po C.c.calm (thI it F C.c h.1.2) (thT t F C.c h.1.1) (thB b F C h.2) (fun v => fold_of h.1.2 X.env v)
  | .brk, X, sc, W, F, C, s, h => by
    have h0 := inv_Sbrk h
    clear h
    obtain ⟨p, rfl, h⟩ := h0
    exact ps_break
  | .cnt, X, sc, W, F, C, s, h => by
    have h0 := inv_Scnt h
    clear h
    obtain ⟨p, rfl, h⟩ := h0
    exact ps_continue
  | .pass, X, sc, W, F, C, s, h => by
    have h0 := inv_Spass h
    clear h
    obtain ⟨p, rfl, h⟩ := h0
    exact ps_pass
  | .deli o i, X, sc, W, F, C, s, h => by
    have h0 := inv_Sdeli h
    clear h
    obtain ⟨x, y, q, p, rfl, h⟩ := h0
    simp only [Bool.and_eq_true] at h
    exact ps_ddel (thE o F C.c h.1).1 (thE i F C.c h.2).1
theorem thB : ∀ (m : Sb) {X : Cx} {sc : Scope} {W : WX} (F : Facts X Γ M k) (C : CtxS X N sc W) {ss : List Stmt}, chkB Γ N m sc ss = true → PSs X ss (wpB Γ M m W)
  | .nil, X, sc, W, F, C, [], h => pss_nil
  | .nil, X, sc, W, F, C, _ :: _, h => by simp [chkB] at h
  | .cons _ _, X, sc, W, F, C, [], h => by simp [chkB] at h
  | .cons a .nil, X, sc, W, F, C, s :: ss, h => by
    cases ss with
    | cons b r => simp [chkB] at h
    | nil =>
      simp only [chkB, Bool.and_eq_true] at h
      exact pss_one (thS a F C h.1)
  | .cons a (.cons b r), X, sc, W, F, C, s :: ss, h => by
    rw [chkB] at h
    simp only [Bool.and_eq_true] at h
    exact pss_cons (thS a F C h.1) (thB (.cons b r) F C h.2)
end
end
end MP

set_option Elab.async false
set_option linter.all false
set_option maxRecDepth 100000
set_option maxHeartbeats 4000000
namespace MP
open PySem PySem.Spec PyProof.Rows L2

/-! ### values of the mini language -/
abbrev KK := Sum Key (List Key)
inductive D where
  | non
  | bl (b : Bool)
  | int (i : Int)
  | str (x : Str)
  | ty (n : String)
  | tup (xs : List D)
  | lst (xs : List D)
  | rol (xs : List D)
  | dic (kvs : List (KK × D))
  | ins (c : Nat) (fs : List (Option D))
  | ref (r : Nat)
  deriving Inhabited
/-- what a slot or a field holds: nothing, a value, a list or dict of its own -/
inductive Sl where
  | un
  | val (d : D)
  | ol (xs : List D)
  | od (kvs : List (KK × D))
inductive MObj where
  | ins (c : Nat) (fs : List Sl)
  | lst (xs : List D)
  | dic (kvs : List (KK × D))
/-- how many stand -/
def cntS : List Sl → Nat
  | [] => 0
  | .un :: r => cntS r
  | .val _ :: r => cntS r + 1
  | .ol _ :: r => cntS r + 1
  | .od _ :: r => cntS r + 1
abbrev MH := List MObj
abbrev MEnv := List Sl
inductive Out (α : Type) where
  | ok (a : α) (h : MH)
  | exc (c : Nat) (p : Option D) (env : MEnv) (h : MH)
  | bad
def Out.bind {α β : Type} (m : Out α) (f : α → MH → Out β) : Out β := match m with
  | .ok a h => f a h
  | .exc c p e h => .exc c p e h
  | .bad => .bad

/-! ### how values stand in the heap -/
inductive Loc where
  | sl (i : Nat)
  | ob (r : Nat)
  | fl (r j : Nat)
  deriving DecidableEq
/-- the parameters of the relation: the written part, the classes' addresses and fields -/
structure Pm where
  K : PySem.W.Frag
  ca : Nat → Addr
  nm : Nat → List Str
def KTup (K : PySem.W.Frag) (a : Addr) (xs : List V) : Prop := ∃ (o : Obj) (its : Array Value) (n : Nat), K.lookup a = some o ∧ o.cls = .type "tuple" ∧ o.data = .seq its n ∧ its.size ≤ sizeLine ∧ Vals xs its.toList
def KLst (K : PySem.W.Frag) (a : Addr) (xs : List V) : Prop := ∃ (o : Obj) (its : Array Value) (n : Nat), K.lookup a = some o ∧ o.cls = .type "list" ∧ o.dict = none ∧ o.data = .seq its n ∧ its.size ≤ sizeLine ∧ Vals xs its.toList
/-- a dict at a, whatever its keys -/
def HDic (H : Hp) (a : Addr) (ws : List (KK × V)) : Prop :=
  (∃ l : List (Key × V), H a = some (.dK l) ∧ ws = l.map fun p => (.inl p.1, p.2)) ∨ ∃ l : List (List Key × V), l ≠ [] ∧ H a = some (.dT l) ∧ ws = l.map fun p => (.inr p.1, p.2)
section
variable (P : Pm) (U : Addr → Prop) (ρ : Nat → Addr) (n : Nat) (H : Hp)
mutual
def Rp : D → V → Prop
  | .non, v => v = .non
  | .bl b, v => v = .bl b
  | .int i, v => v = .int i
  | .str x, v => v = .str x
  | .ty t, v => v = .ty t
  | .tup ds, v => ∃ a vs, v = .ref a ∧ ((H a = some (.tup vs) ∧ ¬ U a) ∨ KTup P.K a vs) ∧ Rps ds vs
  | .lst ds, v => ∃ a vs, v = .ref a ∧ (H a = some (.lst vs) ∧ ¬ U a) ∧ Rps ds vs
  | .rol ds, v => ∃ a vs, v = .ref a ∧ ((∃ o, H a = some (.frz o (.lst vs)) ∧ ¬ U a) ∨ KLst P.K a vs) ∧ Rps ds vs
  | .dic kvs, v => ∃ a ws, v = .ref a ∧ (HDic H a ws ∧ ¬ U a) ∧ Rkv kvs ws
  | .ins c fs, v => ∃ a dx gs, v = .ref a ∧ (H a = some (.ins (P.ca c) dx gs) ∧ ¬ U a) ∧ (∀ x, x ∉ P.nm c → gs.lookup x = none) ∧ fs.length = (P.nm c).length ∧ Rfs fs (P.nm c) gs
  | .ref r, v => r < n ∧ v = .ref (ρ r)
def Rps : List D → List V → Prop
  | [], vs => vs = []
  | d :: ds, vs => ∃ v ws, vs = v :: ws ∧ Rp d v ∧ Rps ds ws
def Rkv : List (KK × D) → List (KK × V) → Prop
  | [], ws => ws = []
  | (k, d) :: r, ws => ∃ v t, ws = (k, v) :: t ∧ Rp d v ∧ Rkv r t
def Rfs : List (Option D) → List Str → List (Str × V) → Prop
  | [], _, _ => True
  | none :: r, ns, gs => gs.lookup (ns.headD "") = none ∧ Rfs r ns.tail gs
  | some d :: r, ns, gs => (∃ v, gs.lookup (ns.headD "") = some v ∧ Rp d v) ∧ Rfs r ns.tail gs
end
end
/-- at top one's own list or dict may stand -/
def RpT (P : Pm) (U : Addr → Prop) (ρ : Nat → Addr) (n : Nat) (H : Hp) (d : D) (v : V) : Prop := match d with
  | .lst ds => ∃ a vs, v = .ref a ∧ H a = some (.lst vs) ∧ Rps P U ρ n H ds vs
  | .dic kvs => ∃ a ws, v = .ref a ∧ HDic H a ws ∧ Rkv P U ρ n H kvs ws
  | d => Rp P U ρ n H d v
theorem HDic.keep {H H' : Hp} {a : Addr} {ws : List (KK × V)} (h : HDic H a ws) (e : H' a = H a) : HDic H' a ws := by
  unfold HDic at *
  rw [e]
  exact h
theorem HDic.live {H : Hp} {a : Addr} {ws : List (KK × V)} (h : HDic H a ws) : H a ≠ none := by
  rcases h with ⟨l, e, _⟩ | ⟨l, _, e, _⟩ <;> rw [e] <;> exact fun z => nomatch z
section
variable {P : Pm} {U U' : Addr → Prop} {ρ ρ' : Nat → Addr} {n n' : Nat} {H H' : Hp}
/-- what is a value stays one, where all that is no one's own stays -/
structure Stay (U U' : Addr → Prop) (ρ ρ' : Nat → Addr) (n n' : Nat) (H H' : Hp) : Prop where
  keep : ∀ a, H a ≠ none → ¬ U a → H' a = H a ∧ ¬ U' a
  rho : ∀ r, r < n → ρ' r = ρ r
  le : n ≤ n'
mutual
theorem Rp.stay (s : Stay U U' ρ ρ' n n' H H') : ∀ {d : D} {v : V}, Rp P U ρ n H d v → Rp P U' ρ' n' H' d v
  | .non, _, h => by unfold Rp at *; exact h
  | .bl b, _, h => by unfold Rp at *; exact h
  | .int i, _, h => by unfold Rp at *; exact h
  | .str x, _, h => by unfold Rp at *; exact h
  | .ty t, _, h => by unfold Rp at *; exact h
  | .tup ds, _, h => by
    unfold Rp at *
    obtain ⟨a, vs, e, h1, h2⟩ := h
    refine ⟨a, vs, e, ?_, Rps.stay s h2⟩
    rcases h1 with ⟨h1, u⟩ | h1
    · obtain ⟨e1, e2⟩ := s.keep a (by rw [h1]; exact fun z => nomatch z) u
      exact .inl ⟨by rw [e1]; exact h1, e2⟩
    · exact .inr h1
  | .lst ds, _, h => by
    unfold Rp at *
    obtain ⟨a, vs, e, ⟨h1, u⟩, h2⟩ := h
    obtain ⟨e1, e2⟩ := s.keep a (by rw [h1]; exact fun z => nomatch z) u
    exact ⟨a, vs, e, ⟨by rw [e1]; exact h1, e2⟩, Rps.stay s h2⟩
  | .rol ds, _, h => by
    unfold Rp at *
    obtain ⟨a, vs, e, h1, h2⟩ := h
    refine ⟨a, vs, e, ?_, Rps.stay s h2⟩
    rcases h1 with ⟨o, h1, u⟩ | h1
    · obtain ⟨e1, e2⟩ := s.keep a (by rw [h1]; exact fun z => nomatch z) u
      exact .inl ⟨o, by rw [e1]; exact h1, e2⟩
    · exact .inr h1
  | .dic kvs, _, h => by
    unfold Rp at *
    obtain ⟨a, ws, e, ⟨h1, u⟩, h2⟩ := h
    obtain ⟨e1, e2⟩ := s.keep a h1.live u
    exact ⟨a, ws, e, ⟨h1.keep e1, e2⟩, Rkv.stay s h2⟩
  | .ins c fs, _, h => by
    unfold Rp at *
    obtain ⟨a, dx, gs, e, ⟨h1, u⟩, h2, h3, h4⟩ := h
    obtain ⟨e1, e2⟩ := s.keep a (by rw [h1]; exact fun z => nomatch z) u
    exact ⟨a, dx, gs, e, ⟨by rw [e1]; exact h1, e2⟩, h2, h3, Rfs.stay s h4⟩
  | .ref r, _, h => by
    unfold Rp at *
    obtain ⟨h1, h2⟩ := h
    exact ⟨Nat.lt_of_lt_of_le h1 s.le, by rw [h2, s.rho r h1]⟩
theorem Rps.stay (s : Stay U U' ρ ρ' n n' H H') : ∀ {ds : List D} {vs : List V}, Rps P U ρ n H ds vs → Rps P U' ρ' n' H' ds vs
  | [], _, h => by unfold Rps at *; exact h
  | d :: ds, _, h => by
    unfold Rps at *
    obtain ⟨v, ws, e, h1, h2⟩ := h
    exact ⟨v, ws, e, Rp.stay s h1, Rps.stay s h2⟩
theorem Rkv.stay (s : Stay U U' ρ ρ' n n' H H') : ∀ {ds : List (KK × D)} {vs : List (KK × V)}, Rkv P U ρ n H ds vs → Rkv P U' ρ' n' H' ds vs
  | [], _, h => by unfold Rkv at *; exact h
  | (k, d) :: ds, _, h => by
    unfold Rkv at *
    obtain ⟨v, ws, e, h1, h2⟩ := h
    exact ⟨v, ws, e, Rp.stay s h1, Rkv.stay s h2⟩
theorem Rfs.stay (s : Stay U U' ρ ρ' n n' H H') : ∀ {fs : List (Option D)} {ns : List Str} {gs : List (Str × V)}, Rfs P U ρ n H fs ns gs → Rfs P U' ρ' n' H' fs ns gs
  | [], _, _, h => by unfold Rfs at *; exact h
  | none :: ds, _, _, h => by
    unfold Rfs at *
    exact ⟨h.1, Rfs.stay s h.2⟩
  | some d :: ds, _, _, h => by
    unfold Rfs at *
    obtain ⟨⟨v, e, h1⟩, h2⟩ := h
    exact ⟨⟨v, e, Rp.stay s h1⟩, Rfs.stay s h2⟩
end
theorem Rp.top {d : D} {v : V} (h : Rp P U ρ n H d v) : RpT P U ρ n H d v := by
  unfold RpT
  cases d <;> first | exact h | skip
  · unfold Rp at h
    obtain ⟨a, vs, e, ⟨h1, _⟩, h2⟩ := h
    exact ⟨a, vs, e, h1, h2⟩
  · unfold Rp at h
    obtain ⟨a, vs, e, ⟨h1, _⟩, h2⟩ := h
    exact ⟨a, vs, e, h1, h2⟩
end

/-! ### the relation -/
def UU (A : Addr → Prop) (o : Loc → Option Addr) (a : Addr) : Prop := A a ∨ ∃ l, o l = some a
def rho (o : Loc → Option Addr) (r : Nat) : Addr := (o (.ob r)).getD 0
section
variable (P : Pm) (A : Addr → Prop) (o : Loc → Option Addr)
/-- a slot (a field) of the location l -/
def SlR (n : Nat) (H : Hp) (oa : Option Addr) (s : Sl) (v : Option V) : Prop := match s with
  | .un => oa = none
  | .val d => oa = none ∧ ∃ x, v = some x ∧ Rp P (UU A o) (rho o) n H d x
  | .ol xs => ∃ a vs, v = some (.ref a) ∧ oa = some a ∧ H a = some (.lst vs) ∧ Rps P (UU A o) (rho o) n H xs vs
  | .od kvs => ∃ a ws, v = some (.ref a) ∧ oa = some a ∧ HDic H a ws ∧ Rkv P (UU A o) (rho o) n H kvs ws
def ObR (n : Nat) (H : Hp) (r : Nat) (m : MObj) : Prop := ∃ a, o (.ob r) = some a ∧ match m with
  | .ins c fs => ∃ dx gs, H a = some (.ins (P.ca c) dx gs) ∧ (∀ x, x ∉ P.nm c → gs.lookup x = none) ∧ fs.length = (P.nm c).length ∧ gs.length ≤ cntS fs ∧
      (∀ j s, fs[j]? = some s → SlR P A o n H (o (.fl r j)) s (gs.lookup ((P.nm c).getD j "")) ∧ (s = .un → gs.lookup ((P.nm c).getD j "") = none)) ∧ ∀ j, fs.length ≤ j → o (.fl r j) = none
  | .lst xs => (∃ vs, H a = some (.lst vs) ∧ Rps P (UU A o) (rho o) n H xs vs) ∧ ∀ j, o (.fl r j) = none
  | .dic kvs => (∃ ws, HDic H a ws ∧ Rkv P (UU A o) (rho o) n H kvs ws) ∧ ∀ j, o (.fl r j) = none
/-- the heap's part -/
structure RelH (h : MH) (H : Hp) : Prop where
  inj : ∀ l l' a, o l = some a → o l' = some a → l = l'
  apart : ∀ l a, o l = some a → ¬ A a
  live : ∀ a, A a → H a ≠ none
  ol : ∀ l a, o l = some a → H a ≠ none
  ob : ∀ r m, h[r]? = some m → ObR P A o h.length H r m
  far : ∀ r, h.length ≤ r → o (.ob r) = none ∧ ∀ j, o (.fl r j) = none
structure Rel (env : MEnv) (h : MH) (σ : L2.St) (H : Hp) : Prop extends RelH P A o h H where
  len : env.length = σ.length
  sl : ∀ i s, env[i]? = some s → SlR P A o h.length H (o (.sl i)) s (σ.getD i none)
  slf : ∀ i, env.length ≤ i → o (.sl i) = none
end
/-- what a step of an expression keeps -/
structure Stp (A : Addr → Prop) (o : Loc → Option Addr) (h : MH) (H : Hp) (o' : Loc → Option Addr) (h' : MH) (H' : Hp) : Prop where
  keep : ∀ a, H a ≠ none → ¬ UU A o a → H' a = H a ∧ ¬ UU A o' a
  sl : ∀ i, o' (.sl i) = o (.sl i)
  slk : ∀ i a, o (.sl i) = some a → H' a = H a
  ak : ∀ a, A a → H' a = H a
  ob : ∀ r, r < h.length → o' (.ob r) = o (.ob r)
  len : h.length ≤ h'.length
section
variable {P : Pm} {A : Addr → Prop} {o o' o'' : Loc → Option Addr} {h h' h'' : MH} {H H' H'' : Hp} {env : MEnv} {σ : L2.St}
theorem Stp.refl : Stp A o h H o h H := ⟨fun _ _ u => ⟨rfl, u⟩, fun _ => rfl, fun _ _ _ => rfl, fun _ _ => rfl, fun _ _ => rfl, Nat.le_refl _⟩
theorem Stp.trans (R : RelH P A o h H) (s : Stp A o h H o' h' H') (t : Stp A o' h' H' o'' h'' H'') : Stp A o h H o'' h'' H'' where
  keep := fun a e u => by
    obtain ⟨e1, u1⟩ := s.keep a e u
    obtain ⟨e2, u2⟩ := t.keep a (by rw [e1]; exact e) u1
    exact ⟨e2.trans e1, u2⟩
  sl := fun i => (t.sl i).trans (s.sl i)
  slk := fun i a e => (t.slk i a ((s.sl i).trans e)).trans (s.slk i a e)
  ak := fun a e => (t.ak a e).trans (s.ak a e)
  ob := fun r hr => (t.ob r (Nat.lt_of_lt_of_le hr s.len)).trans (s.ob r hr)
  len := Nat.le_trans s.len t.len
theorem Stp.stay (s : Stp A o h H o' h' H') : Stay (UU A o) (UU A o') (rho o) (rho o') h.length h'.length H H' :=
  ⟨s.keep, fun r hr => by unfold rho; rw [s.ob r hr], s.len⟩
end
end MP

set_option Elab.async false
set_option linter.all false
set_option maxRecDepth 100000
set_option maxHeartbeats 4000000
namespace MP
open PySem PySem.Spec PyProof.Rows L2

/-! ### data -/
mutual
def D.py : D → PyData
  | .non => .none
  | .bl b => .bool b
  | .int i => .int i
  | .str x => .str x
  | .tup xs => .tuple (pys xs)
  | .lst xs => .list (pys xs)
  | .rol xs => .list (pys xs)
  | _ => .none
def pys : List D → List PyData
  | [] => []
  | d :: r => d.py :: pys r
end
mutual
/-- plain data, nested at most n deep -/
def D.pl : Nat → D → Bool
  | _, .non => true
  | _, .bl _ => true
  | _, .int _ => true
  | _, .str x => PyData.strOk x
  | n, .tup xs => match n with | 0 => false | m + 1 => pls m xs
  | n, .lst xs => match n with | 0 => false | m + 1 => pls m xs
  | n, .rol xs => match n with | 0 => false | m + 1 => pls m xs
  | _, _ => false
def pls : Nat → List D → Bool
  | _, [] => true
  | n, d :: r => d.pl n && pls n r
end
mutual
/-- tuples of scalars, nested -/
def D.imm : D → Bool
  | .non => true
  | .bl _ => true
  | .int _ => true
  | .str _ => true
  | .tup xs => imms xs
  | _ => false
def imms : List D → Bool
  | [] => true
  | d :: r => d.imm && imms r
end
def D.isN : D → Bool
  | .non => true
  | _ => false
def D.isDic : D → Bool
  | .dic _ => true
  | _ => false
def D.isTup : D → Bool
  | .tup _ => true
  | _ => false
def lim (n : Nat) : Bool := decide (n ≤ 16777216)
def D.seq : D → Option (List D)
  | .tup xs => some xs
  | .lst xs => some xs
  | .rol xs => some xs
  | _ => none
def D.key0 : D → Option Key
  | .int i => some (.inl i)
  | .str x => some (.inr x)
  | _ => none
def keys0 : List D → Option (List Key)
  | [] => some []
  | d :: r => match d.key0, keys0 r with
    | some k, some ks => some (k :: ks)
    | _, _ => none
def D.key : D → Option KK
  | .int i => some (.inl (.inl i))
  | .str x => some (.inl (.inr x))
  | .tup xs => (keys0 xs).map .inr
  | _ => none
def kD : Key → D
  | .inl i => .int i
  | .inr x => .str x
def kkD : KK → D
  | .inl k => kD k
  | .inr ks => .tup (ks.map kD)
def kget (kvs : List (KK × D)) (k : KK) : Option D := (kvs.find? fun p => decide (p.1 = k)).map (·.2)
def kput (kvs : List (KK × D)) (k : KK) (v : D) : List (KK × D) := if kvs.any (fun p => decide (p.1 = k)) then kvs.map fun p => if p.1 = k then (k, v) else p else kvs ++ [(k, v)]
def kdel (kvs : List (KK × D)) (k : KK) : List (KK × D) := kvs.filter fun p => decide (p.1 ≠ k)
def KK.flat : KK → Bool
  | .inl _ => true
  | .inr _ => false
/-- all keys of one make -/
def kinds (b : Bool) (kvs : List (KK × D)) : Bool := kvs.all fun p => KK.flat p.1 == b

def binD (op : Bop) (x y : D) : Option D := match x, y with
  | .int i, .int j => match op with
    | .add => some (.int (i + j))
    | .sub => some (.int (i - j))
    | .mul => if (-18446744073709551616 < i ∧ i < 18446744073709551616) ∨ (-18446744073709551616 < j ∧ j < 18446744073709551616) then some (.int (i * j)) else none
    | .fdiv => if j ≠ 0 ∧ -1073741824 < j ∧ j < 1073741824 then some (.int (i.fdiv j)) else none
    | .mod => if j ≠ 0 then some (.int (i.fmod j)) else none
    | .pow => if 0 ≤ j ∧ j ≤ 1000000 ∧ -18446744073709551616 < i ∧ i < 18446744073709551616 then some (.int (i ^ j.toNat)) else none
    | .shl => if 0 ≤ j ∧ j ≤ 1000000 ∧ -18446744073709551616 < i ∧ i < 18446744073709551616 then some (.int (i * 2 ^ j.toNat)) else none
    | .shr => if 0 ≤ j then some (.int (i / 2 ^ j.toNat)) else none
    | .band => some (.int (Builtin.bitAnd i j))
    | .bor => some (.int (Builtin.bitOr i j))
    | .bxor => some (.int (Builtin.bitXor i j))
  | .tup xs, .tup ys => match op with
    | .add => if lim (xs.length + ys.length) then some (.tup (xs ++ ys)) else none
    | _ => none
  | .lst xs, .lst ys => match op with
    | .add => if lim (xs.length + ys.length) then some (.lst (xs ++ ys)) else none
    | _ => none
  | .lst xs, .int k => match op with
    | .mul => if 0 ≤ k ∧ k ≤ 16777216 ∧ lim (xs.length * k.toNat) then some (.lst (List.replicate k.toNat xs).flatten) else none
    | _ => none
  | .str a, .str b => match op with
    | .add => if lim (a.length + b.length) then some (.str (a ++ b)) else none
    | _ => none
  | _, _ => none
def in2D (op : Bop) (x y : D) : Option D := match x, y with
  | .int i, .int j => match op with
    | .fdiv => none
    | .mod => none
    | .pow => none
    | _ => binD op x y
  | _, _ => none
def cmpD (op : Cop) (x y : D) : Option Bool := match op with
  | .eq => if x.pl 60 && y.pl 60 then some (PyData.eqv x.py y.py) else none
  | .ne => if x.pl 60 && y.pl 60 then some (!PyData.eqv x.py y.py) else none
  | .lt => match x, y with | .int i, .int j => some (decide (i < j)) | _, _ => none
  | .le => match x, y with | .int i, .int j => some (decide (i ≤ j)) | _, _ => none
  | .gt => match x, y with | .int i, .int j => some (decide (j < i)) | _, _ => none
  | .ge => match x, y with | .int i, .int j => some (decide (j ≤ i)) | _, _ => none
  | .isin => match y with
    | .dic kvs => (x.key.bind fun k => if KK.flat k && kinds true kvs then some (kget kvs k).isSome else none)
    | _ => match y.seq with
      | some ys => if x.pl 60 && pls 60 ys then some (ys.any fun z => PyData.eqv z.py x.py) else none
      | none => none
  | .ntin => match y with
    | .dic kvs => (x.key.bind fun k => if KK.flat k && kinds true kvs then some (!(kget kvs k).isSome) else none)
    | _ => match y.seq with
      | some ys => if x.pl 60 && pls 60 ys then some (!(ys.any fun z => PyData.eqv z.py x.py)) else none
      | none => none
  | .isB => match x, y with | .bl a, .bl b => some (decide (a = b)) | _, _ => none
  | .ntB => match x, y with | .bl a, .bl b => some (!decide (a = b)) | _, _ => none
def idxD (x i : D) : Option D := match x with
  | .dic kvs => i.key.bind fun k => if KK.flat k && kinds true kvs then kget kvs k else none
  | _ => match x.seq, i with
    | some xs, .int j => atI xs j
    | _, _ => none
def cutD (xs : List D) (lo hi : Option Int) : List D := (xs.drop (HT.sIx xs.length 0 lo)).take (HT.sIx xs.length xs.length hi - HT.sIx xs.length 0 lo)
def slcD (x : D) (lo hi : Option Int) : Option D := match x with
  | .tup xs => some (.tup (cutD xs lo hi))
  | .lst xs => some (.lst (cutD xs lo hi))
  | .rol xs => some (.lst (cutD xs lo hi))
  | _ => none
def intsD : List D → Option (List Int)
  | [] => some []
  | .int i :: r => (intsD r).map (i :: ·)
  | _ :: _ => none
def blsD : List D → Option (List Bool)
  | [] => some []
  | .bl i :: r => (blsD r).map (i :: ·)
  | _ :: _ => none
def pairsD : List D → Option (List (KK × D))
  | [] => some []
  | .tup [k, v] :: r => match k.key0, pairsD r with
    | some k, some t => some ((.inl k, v) :: t)
    | _, _ => none
  | _ :: _ => none
def mergeD (kvs more : List (KK × D)) : List (KK × D) := more.foldl (fun acc p => kput acc p.1 p.2) kvs
open Classical in
/-- sorted data: alike, of one make -/
noncomputable def sortD (xs : List D) : Option (List D) :=
  if pls 60 xs = true ∧ PySem.W.AllAlike (pys xs) ∧ PySem.W.Sortable (pys xs) then some (xs.mergeSort fun a b => PySem.W.dataLe false D.py a b) else none
open Classical in
noncomputable def pickD (lt : PyData → PyData → Bool) (xs : List D) : Option D := match xs with
  | [] => none
  | x :: r => if imms xs = true ∧ pls 59 xs = true ∧ PySem.W.AlikeAll (pys xs) then some (r.foldl (fun a y => if lt y.py a.py then y else a) x) else none
def tyOf : D → Option String
  | .non => some "NoneType"
  | .bl _ => some "bool"
  | .int _ => some "int"
  | .str _ => some "str"
  | .tup _ => some "tuple"
  | .lst _ => some "list"
  | .rol _ => some "list"
  | .dic _ => some "dict"
  | _ => none
def isiB (t n : String) : Option Bool := if n = "int" ∨ n = "bool" ∨ n = "str" ∨ n = "tuple" ∨ n = "list" ∨ n = "dict" then some (decide (t = n) || (decide (t = "bool") && decide (n = "int"))) else none
noncomputable def biD (b : Bi) (ds : List D) : Option D := match b, ds with
  | .len, [x] => match x with
    | .dic kvs => if kinds true kvs then some (.int kvs.length) else none
    | .str z => if lim z.length then some (.int z.length) else none
    | _ => x.seq.map fun xs => .int xs.length
  | .sum, [x] => match x with
    | .lst xs => (intsD xs).map fun ns => .int ns.sum
    | .rol xs => (intsD xs).map fun ns => .int ns.sum
    | _ => none
  | .max, [.lst xs] => pickD (fun y a => PySem.W.dataLt a y) xs
  | .min, [.lst xs] => pickD (fun y a => PySem.W.dataLt y a) xs
  | .all, [.lst xs] => (blsD xs).map fun bs => .bl (bs.all id)
  | .any, [.lst xs] => (blsD xs).map fun bs => .bl (bs.any id)
  | .sorted, [x] => match x with
    | .lst xs => (sortD xs).map .lst
    | .rol xs => (sortD xs).map .lst
    | .dic kvs => if kinds true kvs && decide (kvs.length < 64) then (intsD (kvs.map fun p => kkD p.1)).map fun ns => .lst ((ns.mergeSort fun a b => decide (a ≤ b)).map .int) else none
    | _ => none
  | .list, [x] => x.seq.map .lst
  | .tuple, [x] => x.seq.map .tup
  | .dict, [x] => match x with
    | .lst xs => (pairsD xs).map fun kvs => .dic (mergeD [] kvs)
    | .dic kvs => if kinds true kvs then some (.dic kvs) else none
    | _ => none
  | .int, [.int i] => some (.int i)
  | .int, [.bl b] => some (.int (if b = true then 1 else 0))
  | .isi, [x, .ty n] => match tyOf x with
    | some t => (isiB t n).map .bl
    | none => none
  | .abs, [.int i] => some (.int (if i < 0 then -i else i))
  | .max2, [.int i, .int j] => some (.int (if j > i then j else i))
  | .min2, [.int i, .int j] => some (.int (if j < i then j else i))
  | _, _ => none

/-! ### the machine -/
structure Sm where
  call : Nat → List D → MH → Out D
  dv : Nat → Nat → List D
  con : Nat → D
  /-- a function's class -/
  cls : Nat → Option Nat
  /-- a class's number of fields, its __init__ -/
  nf : Nat → Nat
  init : Nat → Nat
def ofO {α : Type} (o : Option α) (h : MH) : Out α := match o with
  | some a => .ok a h
  | none => .bad
def view (h : MH) (b : Bool) (d : D) : D := match b, d with
  | true, .ref r => match h[r]? with
    | some (.lst xs) => .lst xs
    | some (.dic kvs) => .dic kvs
    | _ => d
  | _, _ => d
def Sl.get (s : Sl) (b : Bool) (h : MH) : Option D := match s with
  | .un => none
  | .val d => some (view h b d)
  | .ol xs => if b then some (.lst xs) else none
  | .od kvs => if b then some (.dic kvs) else none
def fldD (x : D) (c j : Nat) (b : Bool) (h : MH) : Option D := match x with
  | .ins c' fs => if c' = c then match fs[j]? with
    | some (some d) => some (view h b d)
    | _ => none else none
  | .ref r => match h[r]? with
    | some (.ins c' fs) => if c' = c then match fs[j]? with
      | some s => s.get b h
      | none => none else none
    | _ => none
  | _ => none
def clsD (x : D) (h : MH) : Option Nat := match x with
  | .ins c _ => some c
  | .ref r => match h[r]? with
    | some (.ins c _) => some c
    | _ => none
  | _ => none
def Out.noX {α : Type} : Out α → Out α
  | .exc _ _ _ _ => .bad
  | m => m
def compL (f : D → MH → Out (Option D)) : List D → List D → MH → Out (List D)
  | [], acc, h => .ok acc h
  | d :: r, acc, h => (f d h).bind fun x h1 => compL f r (match x with | some y => acc ++ [y] | none => acc) h1
def asgs (f : D → T → MEnv → Option MEnv) : List D → Ts → MEnv → Option MEnv
  | _, .nil, env => some env
  | [], _, _ => none
  | d :: ds, .cons t r, env => (f d t env).bind fun e1 => asgs f ds r e1
mutual
def asg : T → D → MEnv → Option MEnv
  | .name i, d, env => if i < env.length then some (env.set i (.val d)) else none
  | .tup ts, d, env => match d with
    | .tup xs => asgL ts xs env
    | _ => none
def asgL : Ts → List D → MEnv → Option MEnv
  | .nil, [], env => some env
  | .cons t r, d :: ds, env => (asg t d env).bind fun e1 => asgL r ds e1
  | _, _, _ => none
end
def wipeE (env : MEnv) : List Nat → MEnv
  | [] => env
  | v :: vs => (wipeE env vs).set v .un
def fzs : List Sl → List (Option D)
  | [] => []
  | .un :: r => none :: fzs r
  | .val d :: r => some d :: fzs r
  | .ol xs :: r => some (.lst xs) :: fzs r
  | .od kvs :: r => some (.dic kvs) :: fzs r
mutual
/-- names no object from the n-th on -/
def D.low (n : Nat) : D → Bool
  | .ref r => decide (r < n)
  | .tup xs => lows n xs
  | .lst xs => lows n xs
  | .rol xs => lows n xs
  | .dic kvs => lowk n kvs
  | .ins _ fs => lowf n fs
  | _ => true
def lows (n : Nat) : List D → Bool
  | [] => true
  | d :: r => d.low n && lows n r
def lowk (n : Nat) : List (KK × D) → Bool
  | [] => true
  | (_, d) :: r => d.low n && lowk n r
def lowf (n : Nat) : List (Option D) → Bool
  | [] => true
  | none :: r => lowf n r
  | some d :: r => d.low n && lowf n r
end
open Classical in
/-- a new instance that is never changed again becomes a value -/
noncomputable def freeze (h : MH) (c : Nat) (h2 : MH) : Out D := match h2[h.length]? with
  | some (.ins c' fs) => if c' = c ∧ h2 = h ++ [.ins c' fs] ∧ lowf h.length (fzs fs) = true then .ok (.ins c (fzs fs)) h else .bad
  | _ => .bad
def zipPair : List D → List D → List D
  | a :: r, b :: s => .tup [a, b] :: zipPair r s
  | _, _ => []
def enumD : Nat → List D → List D
  | _, [] => []
  | i, d :: r => .tup [.int i, d] :: enumD (i + 1) r
def rngD (lo : Int) (n : Nat) : List D := (List.range n).map fun i => .int (lo + (i : Nat))
section
variable (S : Sm)
mutual
noncomputable def ev : E → Bool → MEnv → MH → Out D
  | .var i, b, env, h => match env[i]? with
    | some s => ofO (s.get b h) h
    | none => .bad
  | .lit l, _, _, h => .ok (match l with | .non => .non | .bl c => .bl c | .int i => .int i | .str x => .str x) h
  | .glb k, _, _, h => .ok (S.con k) h
  | .bty n, _, _, h => .ok (.ty n) h
  | .tup es, _, env, h => (evs es false env h).bind fun ds h1 => .ok (.tup ds) h1
  | .lst es, _, env, h => (evs es false env h).bind fun ds h1 => .ok (.lst ds) h1
  | .dsp ps, _, env, h => (evp ps env h).bind fun kvs h1 => if kvs.length ≤ 15 then .ok (.dic (mergeD [] kvs)) h1 else .bad
  | .bin op a c, _, env, h => (ev a true env h).bind fun x h1 => (ev c true env h1).bind fun y h2 => ofO (binD op x y) h2
  | .neg a, _, env, h => (ev a true env h).bind fun x h1 => match x with
    | .int i => .ok (.int (-i)) h1
    | _ => .bad
  | .not a, _, env, h => (ev a true env h).bind fun x h1 => match x with
    | .bl c => .ok (.bl (!c)) h1
    | _ => .bad
  | .andl es, _, env, h => evAnd es env h
  | .orl es, _, env, h => evOr es env h
  | .ife c a e, b, env, h => (ev c true env h).bind fun x h1 => match x with
    | .bl true => ev a b env h1
    | .bl false => ev e b env h1
    | _ => .bad
  | .cmp op a c, _, env, h => (ev a true env h).bind fun x h1 => (ev c true env h1).bind fun y h2 => ofO ((cmpD op x y).map .bl) h2
  | .isN a, _, env, h => (ev a true env h).bind fun x h1 => .ok (.bl x.isN) h1
  | .ntN a, _, env, h => (ev a true env h).bind fun x h1 => .ok (.bl (!x.isN)) h1
  | .idx a i, b, env, h => (ev a true env h).bind fun x h1 => (ev i false env h1).bind fun y h2 => ofO ((idxD x y).map (view h2 b)) h2
  | .slc a lo hi, _, env, h => (ev a true env h).bind fun x h1 => (evo lo env h1).bind fun l h2 => (evo hi env h2).bind fun u h3 => ofO (slcD x l u) h3
  | .fld c j a, b, env, h => (ev a false env h).bind fun x h1 => ofO (fldD x c j b h1) h1
  | .call g es, b, env, h => (evs es false env h).bind fun ds h1 => match S.call g (ds ++ S.dv g es.len) h1 with
    | .ok d h2 => .ok (view h2 b d) h2
    | .exc c p _ h2 => .exc c p env h2
    | .bad => .bad
  | .meth g o es, b, env, h => (ev o false env h).bind fun x h1 => if clsD x h1 = S.cls g ∧ (S.cls g).isSome = true then (evs es false env h1).bind fun ds h2 => match S.call g (x :: (ds ++ S.dv g (es.len + 1))) h2 with
    | .ok d h3 => .ok (view h3 b d) h3
    | .exc c p _ h3 => .exc c p env h3
    | .bad => .bad
    else .bad
  | .new c es fz, _, env, h => (evs es false env h).bind fun ds h1 => match S.call (S.init c) (.ref h1.length :: (ds ++ S.dv (S.init c) (es.len + 1))) (h1 ++ [.ins c (List.replicate (S.nf c) .un)]) with
    | .ok .non h2 => if fz then freeze h1 c h2 else .ok (.ref h1.length) h2
    | .ok _ _ => .bad
    | .exc x p _ h2 => .exc x p env h2
    | .bad => .bad
  | .bi b es, _, env, h => (evs es true env h).bind fun ds h1 => ofO (biD b ds) h1
  | .bm m o es, b, env, h => match m with
    | .get1 => (ev o true env h).bind fun x h1 => match x with
      | .dic kvs => (evs es false env h1).bind fun ds h2 => match ds with
        | [y] => ofO ((y.key.bind fun k => if KK.flat k && kinds true kvs then some ((kget kvs k).getD .non) else none).map (view h2 b)) h2
        | _ => .bad
      | _ => .bad
    | .get2 => (ev o true env h).bind fun x h1 => match x with
      | .dic kvs => (evs es false env h1).bind fun ds h2 => match ds with
        | [y, z] => ofO ((y.key.bind fun k => if KK.flat k && kinds true kvs then some ((kget kvs k).getD z) else none).map (view h2 b)) h2
        | _ => .bad
      | _ => .bad
    | _ => .bad
  | .rng tl a, _, env, h => (ev a true env h).bind fun x h1 => match x with
    | .int n => if n ≤ 16777216 ∧ -16777216 ≤ n then .ok (if tl then .tup (rngD 0 n.toNat) else .lst (rngD 0 n.toNat)) h1 else .bad
    | _ => .bad
  | .comp e t it c own, _, env, h => (evI it true env h).bind fun ds h1 => if lim ds.length then
      ((compL (fun d h2 => match asg t d (wipeE env own) with
        | some e1 => (evc c e1 h2).bind fun k h3 => if k then (ev e false e1 h3).bind fun y h4 => .ok (some y) h4 else .ok none h3
        | none => .bad) ds [] h1).bind fun ys h2 => .ok (.lst ys) h2).noX else .bad
noncomputable def evs : Es → Bool → MEnv → MH → Out (List D)
  | .nil, _, _, h => .ok [] h
  | .cons e r, b, env, h => (ev e b env h).bind fun d h1 => (evs r b env h1).bind fun ds h2 => .ok (d :: ds) h2
noncomputable def evp : Ps → MEnv → MH → Out (List (KK × D))
  | .nil, _, h => .ok [] h
  | .cons k v r, env, h => (ev k false env h).bind fun x h1 => (ev v false env h1).bind fun y h2 => (evp r env h2).bind fun t h3 => match x.key0 with
    | some q => .ok ((.inl q, y) :: t) h3
    | none => .bad
noncomputable def evAnd : Es → MEnv → MH → Out D
  | .nil, _, _ => .bad
  | .cons e r, env, h => (ev e true env h).bind fun x h1 => match x with
    | .bl c => match r with
      | .nil => .ok (.bl c) h1
      | .cons _ _ => if c then evAnd r env h1 else .ok (.bl false) h1
    | _ => .bad
noncomputable def evOr : Es → MEnv → MH → Out D
  | .nil, _, _ => .bad
  | .cons e r, env, h => (ev e true env h).bind fun x h1 => match x with
    | .bl c => match r with
      | .nil => .ok (.bl c) h1
      | .cons _ _ => if c then .ok (.bl true) h1 else evOr r env h1
    | _ => .bad
noncomputable def evo : O → MEnv → MH → Out (Option Int)
  | .no, _, h => .ok none h
  | .yes e, env, h => (ev e true env h).bind fun x h1 => match x with
    | .int i => .ok (some i) h1
    | _ => .bad
noncomputable def evc : O → MEnv → MH → Out Bool
  | .no, _, h => .ok true h
  | .yes e, env, h => (ev e true env h).bind fun x h1 => match x with
    | .bl k => .ok k h1
    | _ => .bad
noncomputable def evI : I → Bool → MEnv → MH → Out (List D)
  | .val e, b, env, h => (ev e b env h).bind fun x h1 => ofO x.seq h1
  | .rng1 a, _, env, h => (ev a true env h).bind fun x h1 => match x with
    | .int n => if -4611686018427387904 ≤ n ∧ n < 4611686018427387904 then .ok (rngD 0 n.toNat) h1 else .bad
    | _ => .bad
  | .rng2 a c, _, env, h => (ev a true env h).bind fun x h1 => (ev c true env h1).bind fun y h2 => match x, y with
    | .int n, .int m => if -4611686018427387904 ≤ n ∧ n < 4611686018427387904 ∧ -4611686018427387904 ≤ m ∧ m < 4611686018427387904 then .ok (rngD n (m - n).toNat) h2 else .bad
    | _, _ => .bad
  | .enum e, b, env, h => (ev e b env h).bind fun x h1 => match x with
    | .lst xs => .ok (enumD 0 xs) h1
    | .rol xs => .ok (enumD 0 xs) h1
    | _ => .bad
  | .zip a c, b, env, h => (ev a b env h).bind fun x h1 => (ev c b env h1).bind fun y h2 => match x, y with
    | .lst xs, .lst ys => .ok (zipPair xs ys) h2
    | .tup xs, .tup ys => .ok (zipPair xs ys) h2
    | _, _ => .bad
end
end
end MP

set_option Elab.async false
set_option linter.all false
set_option maxRecDepth 100000
set_option maxHeartbeats 4000000
namespace MP
open PySem PySem.Spec PyProof.Rows L2

/-! ### static looks -/
/-- may give out a thing that can be changed later -/
def bor : E → Bool
  | .var _ => true
  | .fld _ _ _ => true
  | .idx _ _ => true
  | .ife _ a b => bor a || bor b
  | .call _ _ => true
  | .meth _ _ _ => true
  | .bm _ _ _ => true
  | _ => false
section
variable (pf : Nat → Bool)
mutual
/-- changes nothing, makes no object that can be changed -/
def pu : E → Bool
  | .var _ => true
  | .lit _ => true
  | .glb _ => true
  | .bty _ => true
  | .tup es => pus es
  | .lst es => pus es
  | .dsp ps => pup ps
  | .bin _ a b => pu a && pu b
  | .neg a => pu a
  | .not a => pu a
  | .andl es => pus es
  | .orl es => pus es
  | .ife c a b => pu c && pu a && pu b
  | .cmp _ a b => pu a && pu b
  | .isN a => pu a
  | .ntN a => pu a
  | .idx a i => pu a && pu i
  | .slc a lo hi => pu a && puo lo && puo hi
  | .fld _ _ a => pu a
  | .call g es => pf g && pus es
  | .meth g o es => pf g && pu o && pus es
  | .new _ _ _ => false
  | .bi _ es => pus es
  | .bm _ o es => pu o && pus es
  | .rng _ a => pu a
  | .comp e _ it c _ => pu e && puI it && puo c
def pus : Es → Bool
  | .nil => true
  | .cons e r => pu e && pus r
def pup : Ps → Bool
  | .nil => true
  | .cons k v r => pu k && pu v && pup r
def puo : O → Bool
  | .no => true
  | .yes e => pu e
def puI : I → Bool
  | .val e => pu e
  | .rng1 a => pu a
  | .rng2 a b => pu a && pu b
  | .enum e => pu e
  | .zip a b => pu a && pu b
end
/-- if what is read first may change, what is read behind it changes nothing -/
def ordB (a b : E) : Bool := !bor a || pu pf b
def tin (own : List Nat) : T → Bool
  | .name i => own.contains i
  | .tup _ => true
mutual
def tinT (own : List Nat) : T → Bool
  | .name i => own.contains i
  | .tup ts => tinTs own ts
def tinTs (own : List Nat) : Ts → Bool
  | .nil => true
  | .cons t r => tinT own t && tinTs own r
end
def okT : Es → Bool
  | .nil => true
  | .cons _ r => pus pf r
def borI : I → Bool
  | .val e => bor e
  | .enum e => bor e
  | .zip a b => bor a || bor b
  | _ => false
mutual
def wf : E → Bool
  | .tup es => wfs es && decide (es.len ≤ 1000)
  | .lst es => wfs es && decide (es.len ≤ 1000)
  | .dsp ps => wfp ps
  | .bin _ a b => wf a && wf b && ordB pf a b
  | .neg a => wf a
  | .not a => wf a
  | .andl es => wfs es
  | .orl es => wfs es
  | .ife c a b => wf c && wf a && wf b
  | .cmp _ a b => wf a && wf b && ordB pf a b
  | .isN a => wf a
  | .ntN a => wf a
  | .idx a i => wf a && wf i && ordB pf a i
  | .slc a lo hi => wf a && wfo lo && wfo hi && (!bor a || (puo pf lo && puo pf hi))
  | .fld _ _ a => wf a
  | .call _ es => wfs es
  | .meth _ o es => wf o && wfs es
  | .new _ es _ => wfs es
  | .bi _ es => wfs es && okT pf es
  | .bm m o es => wf o && wfs es && pus pf es && decide (es.len = bmN m)
  | .rng _ a => wf a
  | .comp e t it c own => wf e && wfI it && wfo c && tinT own t && (!borI it || (pu pf e && puo pf c))
  | _ => true
def wfs : Es → Bool
  | .nil => true
  | .cons e r => wf e && wfs r
def wfp : Ps → Bool
  | .nil => true
  | .cons k v r => wf k && wf v && wfp r
def wfo : O → Bool
  | .no => true
  | .yes e => wf e
def wfI : I → Bool
  | .val e => wf e
  | .rng1 a => wf a
  | .rng2 a b => wf a && wf b
  | .enum e => wf e
  | .zip a b => wf a && wf b && ordB pf a b
end
end

/-! ### the wishes -/
section
variable (P : Pm)
/-- how an exception lies: its class, what it holds -/
def ExR (A : Addr → Prop) (o : Loc → Option Addr) (n : Nat) (H : Hp) (c : Nat) (p : Option D) (cls : Value) (dd : Option Addr) : Prop := cls = .ref (P.ca c) ∧ match p with
  | none => dd = none
  | some d => ∃ q v, dd = some q ∧ H q = some (.xd [((P.nm c).headD "", v)]) ∧ Rp P (UU A o) (rho o) n H d v
def RpB (b : Bool) (U : Addr → Prop) (ρ : Nat → Addr) (n : Nat) (H : Hp) (d : D) (v : V) : Prop := if b = true then RpT P U ρ n H d v else Rp P U ρ n H d v
def Pure (o : Loc → Option Addr) (h : MH) (H : Hp) (o' : Loc → Option Addr) (h' : MH) (H' : Hp) : Prop := o' = o ∧ h' = h ∧ Same H H'
def noSl (o : Loc → Option Addr) : Prop := ∀ i, o (.sl i) = none
def PostC (A : Addr → Prop) (o : Loc → Option Addr) (h : MH) (H : Hp) (pur : Bool) (out : Out D) (Q : VK) (E : XK) : Prop := match out with
  | .ok d h' => ∀ o' v H', noSl o' → RelH P A o' h' H' → Stp A o h H o' h' H' → (pur = true → Pure o h H o' h' H') → Rp P (UU A o') (rho o') h'.length H' d v → Q v H'
  | .exc c p _ h' => ∀ o' H' cls dd, noSl o' → RelH P A o' h' H' → Stp A o h H o' h' H' → ExR P A o' h'.length H' c p cls dd → E cls dd H'
  | .bad => False
/-- what an evaluation leaves: G says what is wanted of the result -/
def Post {α : Type} (W : WX) (A : Addr → Prop) (o : Loc → Option Addr) (env : MEnv) (h : MH) (σ : L2.St) (H : Hp) (pur : Bool) (out : Out α) (G : α → (Loc → Option Addr) → MH → Hp → Prop) : Prop := match out with
  | .ok d h' => ∀ o' H', Rel P A o' env h' σ H' → Stp A o h H o' h' H' → (pur = true → Pure o h H o' h' H') → G d o' h' H'
  | .exc c p _ h' => ∀ o' H' cls dd, Rel P A o' env h' σ H' → Stp A o h H o' h' H' → ExR P A o' h'.length H' c p cls dd → W cls dd σ H'
  | .bad => False
end
end MP

set_option Elab.async false
set_option linter.all false
set_option maxRecDepth 100000
set_option maxHeartbeats 4000000
namespace MP
open PySem PySem.Spec PyProof.Rows L2
section
variable {P : Pm} {A A' : Addr → Prop} {o o' o'' : Loc → Option Addr} {h h' h'' : MH} {H H' H'' : Hp} {env : MEnv} {σ : L2.St} {p : Addr}
theorem Same.eq (s : Same H H') {a : Addr} (e : H a ≠ none) : H' a = H a := by
  cases q : H a with
  | none => exact absurd q e
  | some ob => exact s a ob q
theorem same_upd {ho : HO} (hp : H p = none) : Same H (upd H p ho) := fun b ob e => by rw [upd_ne (ne_of_none e hp)]; exact e
theorem RelH.u_live (R : RelH P A o h H) {a : Addr} (u : UU A o a) : H a ≠ none := by
  rcases u with u | ⟨l, e⟩
  · exact R.live a u
  · exact R.ol l a e
theorem RelH.fresh (R : RelH P A o h H) (hp : H p = none) : ¬ UU A o p := fun u => R.u_live u hp
theorem stay_same (s : Same H H') (n : Nat) : Stay (UU A o) (UU A o) (rho o) (rho o) n n H H' := ⟨fun a e u => ⟨Same.eq s e, u⟩, fun _ _ => rfl, Nat.le_refl _⟩
theorem SlR.stay {n n' : Nat} {oa : Option Addr} {s : Sl} {v : Option V} (st : Stay (UU A o) (UU A' o') (rho o) (rho o') n n' H H') (k : ∀ a, oa = some a → H' a = H a) (x : SlR P A o n H oa s v) : SlR P A' o' n' H' oa s v := by
  cases s with
  | un => exact x
  | val d =>
    obtain ⟨e, y, e2, r⟩ := x
    exact ⟨e, y, e2, r.stay st⟩
  | ol xs =>
    obtain ⟨a, vs, e1, e2, e3, r⟩ := x
    exact ⟨a, vs, e1, e2, (k a e2).trans e3, r.stay st⟩
  | od kvs =>
    obtain ⟨a, ws, e1, e2, e3, r⟩ := x
    exact ⟨a, ws, e1, e2, e3.keep (k a e2), r.stay st⟩
theorem RelH.same (R : RelH P A o h H) (s : Same H H') : RelH P A o h H' where
  inj := R.inj
  apart := R.apart
  live := fun a u => by rw [Same.eq s (R.live a u)]; exact R.live a u
  ol := fun l a e => by rw [Same.eq s (R.ol l a e)]; exact R.ol l a e
  ob := fun r m e => by
    obtain ⟨a, e1, x⟩ := R.ob r m e
    have ea : H' a = H a := Same.eq s (R.ol _ a e1)
    refine ⟨a, e1, ?_⟩
    cases m with
    | ins c fs =>
      obtain ⟨dx, gs, h1, h2, h3, h4, h5, h6⟩ := x
      exact ⟨dx, gs, ea.trans h1, h2, h3, h4, fun j sl ej => ⟨(h5 j sl ej).1.stay (stay_same s _) fun b eb => Same.eq s (R.ol _ b eb), (h5 j sl ej).2⟩, h6⟩
    | lst xs =>
      obtain ⟨⟨vs, h1, h2⟩, h3⟩ := x
      exact ⟨⟨vs, ea.trans h1, h2.stay (stay_same s _)⟩, h3⟩
    | dic kvs =>
      obtain ⟨⟨ws, h1, h2⟩, h3⟩ := x
      exact ⟨⟨ws, h1.keep ea, h2.stay (stay_same s _)⟩, h3⟩
  far := R.far
theorem Rel.same (R : Rel P A o env h σ H) (s : Same H H') : Rel P A o env h σ H' :=
  { R.toRelH.same s with
    len := R.len
    sl := fun i sl e => (R.sl i sl e).stay (stay_same s _) fun b eb => Same.eq s (R.ol _ b eb)
    slf := R.slf }
theorem Stp.same (R : RelH P A o h H) (s : Same H H') : Stp A o h H o h H' :=
  ⟨fun a e u => ⟨Same.eq s e, u⟩, fun _ => rfl, fun i a e => Same.eq s (R.ol _ a e), fun a u => Same.eq s (R.live a u), fun _ _ => rfl, Nat.le_refl _⟩
theorem Pure.refl : Pure o h H o h H := ⟨rfl, rfl, Same.refl H⟩
theorem Pure.same (s : Same H H') : Pure o h H o h H' := ⟨rfl, rfl, s⟩
theorem Pure.trans (a : Pure o h H o' h' H') (b : Pure o' h' H' o'' h'' H'') : Pure o h H o'' h'' H'' := ⟨b.1.trans a.1, b.2.1.trans a.2.1, a.2.2.trans b.2.2⟩
theorem RpT.same {U : Addr → Prop} {ρ : Nat → Addr} {n : Nat} {d : D} {v : V} (s : Same H H') (st : Stay U U ρ ρ n n H H') (r : RpT P U ρ n H d v) : RpT P U ρ n H' d v := by
  unfold RpT at *
  cases d <;> first | exact Rp.stay st r | skip
  · obtain ⟨a, vs, e, h1, h2⟩ := r
    exact ⟨a, vs, e, s _ _ h1, h2.stay st⟩
  · obtain ⟨a, ws, e, h1, h2⟩ := r
    exact ⟨a, ws, e, h1.keep (Same.eq s h1.live), h2.stay st⟩
/-- what was read stays what it was, where what comes behind is known to change nothing, or what was read can't change -/
theorem RpB.keep {b : Bool} {d : D} {v : V} (r : RpB P b (UU A o) (rho o) h.length H d v) (st : Stp A o h H o' h' H') (p : b = true → Pure o h H o' h' H') : RpB P b (UU A o') (rho o') h'.length H' d v := by
  unfold RpB at *
  cases b with
  | false =>
    simp only [Bool.false_eq_true, if_false] at r ⊢
    exact r.stay st.stay
  | true =>
    simp only [if_true] at r ⊢
    obtain ⟨rfl, rfl, s⟩ := p rfl
    exact r.same s (stay_same s _)
theorem RpB.top {b : Bool} {U : Addr → Prop} {ρ : Nat → Addr} {n : Nat} {d : D} {v : V} (r : RpB P b U ρ n H d v) : RpT P U ρ n H d v := by
  unfold RpB at r
  cases b with
  | false => exact (show Rp P U ρ n H d v by simpa using r).top
  | true => simpa using r
theorem RpB.of {b : Bool} {U : Addr → Prop} {ρ : Nat → Addr} {n : Nat} {d : D} {v : V} (r : Rp P U ρ n H d v) : RpB P b U ρ n H d v := by
  unfold RpB
  cases b with
  | false => simpa using r
  | true => simpa using r.top
theorem RpB.val {U : Addr → Prop} {ρ : Nat → Addr} {n : Nat} {d : D} {v : V} (r : RpB P false U ρ n H d v) : Rp P U ρ n H d v := by simpa [RpB] using r

/-! ### evaluations in a row -/
variable {W : WX} {α β : Type}
theorem Post.imp {q q' : Bool} {out : Out α} {G G' : α → (Loc → Option Addr) → MH → Hp → Prop} (x : Post P W A o env h σ H q out G) (hq : q = true → q' = true)
    (k : ∀ d o' h' H', out = .ok d h' → Rel P A o' env h' σ H' → Stp A o h H o' h' H' → (q' = true → Pure o h H o' h' H') → G d o' h' H' → G' d o' h' H') : Post P W A o env h σ H q' out G' := by
  cases out with
  | ok d h1 => exact fun o1 H1 R1 S1 P1 => k d o1 h1 H1 rfl R1 S1 P1 (x o1 H1 R1 S1 fun e => P1 (hq e))
  | exc c p e h1 => exact x
  | bad => exact x
theorem Post.bind {q q1 q2 : Bool} {out : Out α} {f : α → MH → Out β} {G : β → (Loc → Option Addr) → MH → Hp → Prop} (R : RelH P A o h H) (x : Post P W A o env h σ H q (out.bind f) G) (hq : q = true → q1 = true ∧ q2 = true) :
    Post P W A o env h σ H q1 out (fun d o1 h1 H1 => Post P W A o1 env h1 σ H1 q2 (f d h1) G) := by
  cases out with
  | ok d h1 =>
    intro o1 H1 R1 S1 P1
    have x' : Post P W A o env h σ H q (f d h1) G := x
    generalize hf : f d h1 = y at x' ⊢
    cases y with
    | ok d2 h2 => exact fun o2 H2 R2 S2 P2 => x' o2 H2 R2 (S1.trans R S2) fun e => (P1 (hq e).1).trans (P2 (hq e).2)
    | exc c p e h2 => exact fun o2 H2 cls dd R2 S2 E2 => x' o2 H2 cls dd R2 (S1.trans R S2) E2
    | bad => exact x'
  | exc c p e h1 => exact x
  | bad => exact x
/-- the end: a value that stands, or one that is new -/
theorem Post.done {q : Bool} {d : α} {G : α → (Loc → Option Addr) → MH → Hp → Prop} (x : Post P W A o env h σ H q (.ok d h) G) (R : Rel P A o env h σ H) (s : Same H H') : G d o h H' :=
  x o H' (R.same s) (Stp.same R.toRelH s) fun _ => Pure.same s
theorem Post.ofO {q : Bool} {d : Option α} {G : α → (Loc → Option Addr) → MH → Hp → Prop} (x : Post P W A o env h σ H q (ofO d h) G) (R : Rel P A o env h σ H) : ∃ z, d = some z ∧ ∀ H', Same H H' → G z o h H' := by
  cases d with
  | none => exact x.elim
  | some z => exact ⟨z, rfl, fun H' s => Post.done (d := z) x R s⟩
end
end MP

set_option Elab.async false
set_option linter.all false
set_option maxRecDepth 100000
set_option maxHeartbeats 4000000
namespace MP
open PySem PySem.Spec PyProof.Rows L2
section
variable {P : Pm} {U : Addr → Prop} {ρ : Nat → Addr} {n : Nat} {H H' : Hp}
/-! ### lists of values -/
theorem Rps.len : ∀ {ds : List D} {vs : List V}, Rps P U ρ n H ds vs → vs.length = ds.length
  | [], _, h => by unfold Rps at h; subst h; rfl
  | d :: ds, _, h => by
    unfold Rps at h
    obtain ⟨v, ws, rfl, _, h2⟩ := h
    simp [Rps.len h2]
theorem Rps.nil : Rps P U ρ n H [] [] := by unfold Rps; rfl
theorem Rps.cons {d : D} {ds : List D} {v : V} {vs : List V} (h : Rp P U ρ n H d v) (t : Rps P U ρ n H ds vs) : Rps P U ρ n H (d :: ds) (v :: vs) := by
  unfold Rps
  exact ⟨v, vs, rfl, h, t⟩
theorem Rps.uncons {d : D} {ds : List D} {vs : List V} (h : Rps P U ρ n H (d :: ds) vs) : ∃ v ws, vs = v :: ws ∧ Rp P U ρ n H d v ∧ Rps P U ρ n H ds ws := by
  unfold Rps at h
  exact h
theorem Rps.nil_inv {vs : List V} (h : Rps P U ρ n H [] vs) : vs = [] := by unfold Rps at h; exact h
theorem Rps.append : ∀ {ds es : List D} {vs ws : List V}, Rps P U ρ n H ds vs → Rps P U ρ n H es ws → Rps P U ρ n H (ds ++ es) (vs ++ ws)
  | [], _, _, _, h, k => by
    have e := h.nil_inv
    subst e
    exact k
  | d :: ds, es, _, ws, h, k => by
    obtain ⟨v, us, rfl, h1, h2⟩ := h.uncons
    exact Rps.cons h1 (Rps.append h2 k)
theorem Rps.at : ∀ {ds : List D} {vs : List V} {i : Nat} {d : D}, Rps P U ρ n H ds vs → ds[i]? = some d → ∃ v, vs[i]? = some v ∧ Rp P U ρ n H d v
  | [], _, _, _, _, e => by simp at e
  | d :: ds, _, 0, _, h, e => by
    obtain ⟨v, us, rfl, h1, _⟩ := h.uncons
    simp at e
    subst e
    exact ⟨v, rfl, h1⟩
  | d :: ds, _, i + 1, _, h, e => by
    obtain ⟨v, us, rfl, _, h2⟩ := h.uncons
    obtain ⟨w, e1, e2⟩ := Rps.at h2 (by simpa using e)
    exact ⟨w, by simpa using e1, e2⟩
theorem Rps.back : ∀ {ds : List D} {vs : List V} {i : Nat} {v : V}, Rps P U ρ n H ds vs → vs[i]? = some v → ∃ d, ds[i]? = some d ∧ Rp P U ρ n H d v
  | [], _, _, _, h, e => by
    rw [h.nil_inv] at e
    simp at e
  | d :: ds, _, 0, _, h, e => by
    obtain ⟨v, us, rfl, h1, _⟩ := h.uncons
    simp at e
    subst e
    exact ⟨d, rfl, h1⟩
  | d :: ds, _, i + 1, _, h, e => by
    obtain ⟨v, us, rfl, _, h2⟩ := h.uncons
    obtain ⟨w, e1, e2⟩ := Rps.back h2 (by simpa using e)
    exact ⟨w, by simpa using e1, e2⟩
theorem Rps.take : ∀ {ds : List D} {vs : List V} (k : Nat), Rps P U ρ n H ds vs → Rps P U ρ n H (ds.take k) (vs.take k)
  | _, _, 0, _ => by simpa using Rps.nil
  | [], _, k + 1, h => by
    rw [h.nil_inv]
    simpa using Rps.nil
  | d :: ds, _, k + 1, h => by
    obtain ⟨v, us, rfl, h1, h2⟩ := h.uncons
    exact Rps.cons h1 (Rps.take k h2)
theorem Rps.drop : ∀ {ds : List D} {vs : List V} (k : Nat), Rps P U ρ n H ds vs → Rps P U ρ n H (ds.drop k) (vs.drop k)
  | _, _, 0, h => by simpa using h
  | [], _, k + 1, h => by
    rw [h.nil_inv]
    simpa using Rps.nil
  | d :: ds, _, k + 1, h => by
    obtain ⟨v, us, rfl, h1, h2⟩ := h.uncons
    simpa using Rps.drop k h2
theorem Rps.set : ∀ {ds : List D} {vs : List V} {d : D} {v : V} (k : Nat), Rps P U ρ n H ds vs → Rp P U ρ n H d v → Rps P U ρ n H (ds.set k d) (vs.set k v)
  | [], _, _, _, _, h, _ => by
    rw [h.nil_inv]
    simpa using Rps.nil
  | _ :: ds, _, _, _, 0, h, r => by
    obtain ⟨v, us, rfl, h1, h2⟩ := h.uncons
    exact Rps.cons r h2
  | _ :: ds, _, _, _, k + 1, h, r => by
    obtain ⟨v, us, rfl, h1, h2⟩ := h.uncons
    exact Rps.cons h1 (Rps.set k h2 r)
theorem Rps.rep {ds : List D} {vs : List V} (h : Rps P U ρ n H ds vs) : ∀ k, Rps P U ρ n H (List.replicate k ds).flatten (List.replicate k vs).flatten
  | 0 => by simpa using Rps.nil
  | k + 1 => by
    rw [List.replicate_succ, List.replicate_succ, List.flatten_cons, List.flatten_cons]
    exact h.append (h.rep k)
theorem Rps.ints : ∀ ns : List Int, Rps P U ρ n H (ns.map .int) (ns.map .int)
  | [] => Rps.nil
  | i :: r => Rps.cons (by unfold Rp; rfl) (Rps.ints r)
theorem Rps.of_ints : ∀ {ds : List D} {ns : List Int} {vs : List V}, intsD ds = some ns → Rps P U ρ n H ds vs → vs = ns.map V.int
  | [], ns, vs, e, h => by
    simp [intsD] at e
    subst e
    exact h.nil_inv
  | d :: ds, ns, vs, e, h => by
    obtain ⟨v, us, rfl, h1, h2⟩ := h.uncons
    cases d <;> simp [intsD] at e
    obtain ⟨t, e1, rfl⟩ := e
    unfold Rp at h1
    subst h1
    rw [Rps.of_ints e1 h2]
    rfl
theorem Rps.of_bls : ∀ {ds : List D} {ns : List Bool} {vs : List V}, blsD ds = some ns → Rps P U ρ n H ds vs → vs = ns.map V.bl
  | [], ns, vs, e, h => by
    simp [blsD] at e
    subst e
    exact h.nil_inv
  | d :: ds, ns, vs, e, h => by
    obtain ⟨v, us, rfl, h1, h2⟩ := h.uncons
    cases d <;> simp [blsD] at e
    obtain ⟨t, e1, rfl⟩ := e
    unfold Rp at h1
    subst h1
    rw [Rps.of_bls e1 h2]
    rfl

/-! ### what a value of a make is -/
theorem RpT.non {v : V} (h : RpT P U ρ n H .non v) : v = .non := by simpa [RpT, Rp] using h
theorem RpT.bl {b : Bool} {v : V} (h : RpT P U ρ n H (.bl b) v) : v = .bl b := by simpa [RpT, Rp] using h
theorem RpT.int {i : Int} {v : V} (h : RpT P U ρ n H (.int i) v) : v = .int i := by simpa [RpT, Rp] using h
theorem RpT.str {x : Str} {v : V} (h : RpT P U ρ n H (.str x) v) : v = .str x := by simpa [RpT, Rp] using h
theorem RpT.ty {x : String} {v : V} (h : RpT P U ρ n H (.ty x) v) : v = .ty x := by simpa [RpT, Rp] using h
theorem SqT.ofK {K : PySem.W.Frag} {H : Hp} {a : Addr} {vs : List V} (h : KTup K a vs) : SqT K H a vs := .inr h
theorem SqL.ofK {K : PySem.W.Frag} {H : Hp} {a : Addr} {vs : List V} (h : KLst K a vs) : SqL K H a vs := .inr h
theorem RpT.tup {ds : List D} {v : V} (h : RpT P U ρ n H (.tup ds) v) : ∃ a vs, v = .ref a ∧ SqT P.K H a vs ∧ ((H a = some (.tup vs) ∧ ¬ U a) ∨ KTup P.K a vs) ∧ Rps P U ρ n H ds vs := by
  have h : Rp P U ρ n H (.tup ds) v := h
  unfold Rp at h
  obtain ⟨a, vs, e, h1, h2⟩ := h
  refine ⟨a, vs, e, ?_, h1, h2⟩
  rcases h1 with ⟨h1, _⟩ | h1
  · exact SqT.of h1
  · exact SqT.ofK h1
theorem RpT.lst {ds : List D} {v : V} (h : RpT P U ρ n H (.lst ds) v) : ∃ a vs, v = .ref a ∧ H a = some (.lst vs) ∧ Rps P U ρ n H ds vs := h
theorem RpT.rol {ds : List D} {v : V} (h : RpT P U ρ n H (.rol ds) v) : ∃ a vs, v = .ref a ∧ SqL P.K H a vs ∧ Rps P U ρ n H ds vs := by
  have h : Rp P U ρ n H (.rol ds) v := h
  unfold Rp at h
  obtain ⟨a, vs, e, h1, h2⟩ := h
  refine ⟨a, vs, e, ?_, h2⟩
  rcases h1 with ⟨o, h1, _⟩ | h1
  · exact .inl (.inr ⟨o, h1⟩)
  · exact SqL.ofK h1
theorem RpT.dic {kvs : List (KK × D)} {v : V} (h : RpT P U ρ n H (.dic kvs) v) : ∃ a ws, v = .ref a ∧ HDic H a ws ∧ Rkv P U ρ n H kvs ws := h
/-- a list or a tuple -/
theorem RpT.seq {d : D} {xs : List D} {v : V} (e : d.seq = some xs) (h : RpT P U ρ n H d v) : ∃ a vs, v = .ref a ∧ (SqL P.K H a vs ∨ SqT P.K H a vs) ∧ Rps P U ρ n H xs vs := by
  cases d <;> simp [D.seq] at e <;> subst e
  · obtain ⟨a, vs, e, h1, _, h2⟩ := h.tup
    exact ⟨a, vs, e, .inr h1, h2⟩
  · obtain ⟨a, vs, e, h1, h2⟩ := h.lst
    exact ⟨a, vs, e, .inl (SqL.of h1), h2⟩
  · obtain ⟨a, vs, e, h1, h2⟩ := h.rol
    exact ⟨a, vs, e, .inl h1, h2⟩

/-! ### plain data -/
mutual
theorem pl_ok : ∀ (d : D) (n : Nat), d.pl n = true → d.py.canLay0 = true ∧ d.py.depth ≤ n
  | .non, n, h => by simp [D.py, PyData.canLay0, PyData.depth]
  | .bl b, n, h => by simp [D.py, PyData.canLay0, PyData.depth]
  | .int i, n, h => by simp [D.py, PyData.canLay0, PyData.depth]
  | .str x, n, h => by
    have h : PyData.strOk x = true := by simpa [D.pl] using h
    simp [D.py, PyData.canLay0, PyData.depth, h]
  | .tup xs, 0, h => by simp [D.pl] at h
  | .tup xs, m + 1, h => by
    obtain ⟨h1, h2⟩ := pls_ok xs m (by simpa [D.pl] using h)
    simp only [D.py, PyData.canLay0, PyData.depth]
    exact ⟨h1, by omega⟩
  | .lst xs, 0, h => by simp [D.pl] at h
  | .lst xs, m + 1, h => by
    obtain ⟨h1, h2⟩ := pls_ok xs m (by simpa [D.pl] using h)
    simp only [D.py, PyData.canLay0, PyData.depth]
    exact ⟨h1, by omega⟩
  | .rol xs, 0, h => by simp [D.pl] at h
  | .rol xs, m + 1, h => by
    obtain ⟨h1, h2⟩ := pls_ok xs m (by simpa [D.pl] using h)
    simp only [D.py, PyData.canLay0, PyData.depth]
    exact ⟨h1, by omega⟩
  | .ty _, n, h => by simp [D.pl] at h
  | .dic _, n, h => by simp [D.pl] at h
  | .ins _ _, n, h => by simp [D.pl] at h
  | .ref _, n, h => by simp [D.pl] at h
theorem pls_ok : ∀ (ds : List D) (n : Nat), pls n ds = true → PyData.canLayAll0 (pys ds) = true ∧ PyData.depthAll (pys ds) ≤ n
  | [], n, _ => by simp [pys, PyData.canLayAll0, PyData.depthAll]
  | d :: ds, n, h => by
    simp only [pls, Bool.and_eq_true] at h
    obtain ⟨h1, h2⟩ := pl_ok d n h.1
    obtain ⟨h3, h4⟩ := pls_ok ds n h.2
    simp only [pys, PyData.canLayAll0, PyData.depthAll, Bool.and_eq_true]
    exact ⟨⟨h1, h3⟩, by omega⟩
end
theorem pl_shaped {d : D} {n : Nat} (h : d.pl n = true) (hn : n ≤ 64) : SeqAt.shaped d.py = true := by
  obtain ⟨h1, h2⟩ := pl_ok d n h
  unfold SeqAt.shaped
  simp only [h1, Bool.true_and, decide_eq_true_eq]
  omega
theorem pls_shaped {ds : List D} {n : Nat} (h : pls n ds = true) (hn : n < 64) : SeqAt.shaped (.list (pys ds)) = true := by
  obtain ⟨h1, h2⟩ := pls_ok ds n h
  unfold SeqAt.shaped
  have e1 : (PyData.list (pys ds)).canLay0 = true := by simp only [PyData.canLay0]; exact h1
  have e2 : (PyData.list (pys ds)).depth ≤ 64 := by simp only [PyData.depth]; omega
  rw [e1, decide_eq_true e2]
  rfl
mutual
theorem Rp.dp : ∀ {d : D} {v : V} (m : Nat), d.pl m = true → Rp P U ρ n H d v → Dp P.K H v d.py
  | .non, v, m, _, h => by unfold Rp at h; subst h; exact .non
  | .bl b, v, m, _, h => by unfold Rp at h; subst h; exact .bl b
  | .int i, v, m, _, h => by unfold Rp at h; subst h; exact .int i
  | .str x, v, m, _, h => by unfold Rp at h; subst h; exact .str x
  | .tup xs, v, 0, p, h => by simp [D.pl] at p
  | .tup xs, v, m + 1, p, h => by
    obtain ⟨a, vs, rfl, h1, _, h2⟩ := h.top.tup
    exact .tup h1 (Rps.dp m (by simpa [D.pl] using p) h2)
  | .lst xs, v, 0, p, h => by simp [D.pl] at p
  | .lst xs, v, m + 1, p, h => by
    obtain ⟨a, vs, rfl, h1, h2⟩ := h.top.lst
    exact .lst (SqL.of h1) (Rps.dp m (by simpa [D.pl] using p) h2)
  | .rol xs, v, 0, p, h => by simp [D.pl] at p
  | .rol xs, v, m + 1, p, h => by
    obtain ⟨a, vs, rfl, h1, h2⟩ := h.top.rol
    exact .lst h1 (Rps.dp m (by simpa [D.pl] using p) h2)
  | .ty _, v, m, p, h => by simp [D.pl] at p
  | .dic _, v, m, p, h => by simp [D.pl] at p
  | .ins _ _, v, m, p, h => by simp [D.pl] at p
  | .ref _, v, m, p, h => by simp [D.pl] at p
theorem Rps.dp : ∀ {ds : List D} {vs : List V} (m : Nat), pls m ds = true → Rps P U ρ n H ds vs → DpAll P.K H vs (pys ds)
  | [], vs, m, _, h => by
    rw [h.nil_inv]
    exact .nil
  | d :: ds, vs, m, p, h => by
    obtain ⟨v, us, rfl, h1, h2⟩ := h.uncons
    simp only [pls, Bool.and_eq_true] at p
    exact .cons (Rp.dp m p.1 h1) (Rps.dp m p.2 h2)
end
theorem RpT.dp {d : D} {v : V} {m : Nat} (p : d.pl m = true) (h : RpT P U ρ n H d v) : Dp P.K H v d.py := by
  cases d <;> first | exact Rp.dp m p (show Rp P U ρ n H _ v from h) | skip
  · cases m with
    | zero => simp [D.pl] at p
    | succ m =>
      obtain ⟨a, vs, rfl, h1, h2⟩ := h.lst
      exact .lst (SqL.of h1) (Rps.dp m (by simpa [D.pl] using p) h2)
  · simp [D.pl] at p
theorem pys_any (ys : List D) (x : PyData) : (pys ys).any (fun z => PyData.eqv z x) = ys.any fun z => PyData.eqv z.py x := by
  induction ys with
  | nil => rfl
  | cons y r ih => simp [pys, ih]
theorem pys_map (ys : List D) : pys ys = ys.map D.py := by
  induction ys with
  | nil => rfl
  | cons y r ih => simp [pys, ih]
end
end MP

set_option Elab.async false
set_option linter.all false
set_option maxRecDepth 100000
set_option maxHeartbeats 4000000
namespace MP
open PySem PySem.Spec PyProof.Rows L2
theorem lim_le {n : Nat} (h : lim n = true) : n ≤ sizeLine := by
  have h1 : n ≤ 16777216 := of_decide_eq_true h
  rw [sizeLine_eq]
  exact h1
section
variable {P : Pm} {U : Addr → Prop} {ρ : Nat → Addr} {n : Nat} {H H' : Hp} {Q : VK}
theorem stay_refl (s : Same H H') : Stay U U ρ ρ n n H H' := ⟨fun a e u => ⟨Same.eq s e, u⟩, fun _ _ => rfl, Nat.le_refl _⟩
theorem Rp.same {d : D} {v : V} (r : Rp P U ρ n H d v) (s : Same H H') : Rp P U ρ n H' d v := r.stay (stay_refl s)
theorem Rps.same {d : List D} {v : List V} (r : Rps P U ρ n H d v) (s : Same H H') : Rps P U ρ n H' d v := r.stay (stay_refl s)
theorem Rp.mkInt (i : Int) : Rp P U ρ n H (.int i) (.int i) := by unfold Rp; rfl
theorem Rp.mkBl (i : Bool) : Rp P U ρ n H (.bl i) (.bl i) := by unfold Rp; rfl
theorem Rp.mkStr (i : Str) : Rp P U ρ n H (.str i) (.str i) := by unfold Rp; rfl
theorem Rp.mkNon : Rp P U ρ n H .non .non := by unfold Rp; rfl
/-- a new tuple, a new list -/
theorem Rp.newT {p : Addr} {ds : List D} {vs : List V} (fr : ∀ p, H p = none → ¬ U p) (hp : H p = none) (r : Rps P U ρ n H ds vs) : Rp P U ρ n (upd H p (.tup vs)) (.tup ds) (.ref p) := by
  unfold Rp
  exact ⟨p, vs, rfl, .inl ⟨upd_same, fr p hp⟩, r.same (same_upd hp)⟩
theorem Rp.newL {p : Addr} {ds : List D} {vs : List V} (fr : ∀ p, H p = none → ¬ U p) (hp : H p = none) (r : Rps P U ρ n H ds vs) : Rp P U ρ n (upd H p (.lst vs)) (.lst ds) (.ref p) := by
  unfold Rp
  exact ⟨p, vs, rfl, ⟨upd_same, fr p hp⟩, r.same (same_upd hp)⟩
theorem Rp.mkT {a : Addr} {ds : List D} {vs : List V} (h : (H a = some (.tup vs) ∧ ¬ U a) ∨ KTup P.K a vs) (r : Rps P U ρ n H ds vs) : Rp P U ρ n H (.tup ds) (.ref a) := by
  unfold Rp
  exact ⟨a, vs, rfl, h, r⟩
theorem rbin_ok {op : Bop} {x y z : D} {v w : V} (fr : ∀ p, H p = none → ¬ U p) (e : binD op x y = some z) (hx : RpT P U ρ n H x v) (hy : RpT P U ρ n H y w) (k : ∀ H' u, Same H H' → Rp P U ρ n H' z u → Q u H') : rBin P.K op v w H Q := by
  have fin : ∀ {i : Int}, z = .int i → Q (.int i) H := fun {i} e => k H _ (Same.refl H) (by rw [e]; exact Rp.mkInt i)
  unfold binD at e
  split at e
  · -- ints
    have e1 := hx.int
    have e2 := hy.int
    subst e1 e2
    rename_i i j
    cases op <;> simp only [Option.some.injEq] at e
    · exact .inl ⟨i, j, rfl, rfl, fin e.symm⟩
    · exact ⟨i, j, rfl, rfl, fin e.symm⟩
    · split at e
      · rename_i hc
        exact .inl ⟨i, j, rfl, rfl, (by unfold CMul; omega), fin (Option.some.inj e).symm⟩
      · cases e
    · split at e
      · rename_i hc
        exact ⟨i, j, rfl, rfl, ⟨hc.1, by omega⟩, fin (Option.some.inj e).symm⟩
      · cases e
    · split at e
      · rename_i hc
        exact ⟨i, j, rfl, rfl, hc, fin (Option.some.inj e).symm⟩
      · cases e
    · split at e
      · rename_i hc
        exact ⟨i, j, rfl, rfl, ⟨hc.1, hc.2.1, by omega⟩, fin (Option.some.inj e).symm⟩
      · cases e
    · split at e
      · rename_i hc
        exact ⟨i, j, rfl, rfl, ⟨hc.1, hc.2.1, by omega⟩, fin (Option.some.inj e).symm⟩
      · cases e
    · split at e
      · rename_i hc
        exact ⟨i, j, rfl, rfl, hc, fin (Option.some.inj e).symm⟩
      · cases e
    · exact ⟨i, j, rfl, rfl, fin e.symm⟩
    · exact ⟨i, j, rfl, rfl, fin e.symm⟩
    · exact ⟨i, j, rfl, rfl, fin e.symm⟩
  · -- tuples
    split at e
    · split at e
      · rename_i hl
        cases e
        obtain ⟨a, vs, rfl, h1, h2, r1⟩ := hx.tup
        obtain ⟨b, ws, rfl, h3, h4, r2⟩ := hy.tup
        refine .inr (.inl ⟨a, b, vs, ws, rfl, rfl, h1, h3, ?_, fun q => ?_, fun _ q => ?_, fun _ _ p hp => ?_⟩)
        · rw [r1.len, r2.len]
          exact lim_le hl
        · have q1 := r1.len
          rw [q] at q1
          have q2 := List.length_eq_zero_iff.mp q1.symm
          rw [q2, List.nil_append] at k
          exact k H _ (Same.refl H) (Rp.mkT h4 r2)
        · have q1 := r2.len
          rw [q] at q1
          have q2 := List.length_eq_zero_iff.mp q1.symm
          rw [q2, List.append_nil] at k
          exact k H _ (Same.refl H) (Rp.mkT h2 r1)
        · exact k _ _ (same_upd hp) (Rp.newT fr hp (r1.append r2))
      · cases e
    · cases e
  · -- lists
    split at e
    · split at e
      · rename_i hl
        cases e
        obtain ⟨a, vs, rfl, h1, r1⟩ := hx.lst
        obtain ⟨b, ws, rfl, h3, r2⟩ := hy.lst
        exact .inr (.inr (.inl ⟨a, b, vs, ws, rfl, rfl, h1, h3, by rw [r1.len, r2.len]; exact lim_le hl, fun p hp => k _ _ (same_upd hp) (Rp.newL fr hp (r1.append r2))⟩))
      · cases e
    · cases e
  · -- a list times an int
    split at e
    · split at e
      · rename_i hl
        cases e
        obtain ⟨a, vs, rfl, h1, r1⟩ := hx.lst
        have e2 := hy.int
        subst e2
        exact .inr ⟨a, _, vs, rfl, rfl, h1, by omega, by omega, by rw [r1.len]; exact lim_le hl.2.2, fun p hp => k _ _ (same_upd hp) (Rp.newL fr hp (r1.rep _))⟩
      · cases e
    · cases e
  · split at e
    · split at e
      · rename_i hl
        cases e
        have e1 := hx.str
        have e2 := hy.str
        subst e1 e2
        exact .inr (.inr (.inr ⟨_, _, rfl, rfl, lim_le hl, k H _ (Same.refl H) (Rp.mkStr _)⟩))
      · cases e
    · cases e
  · cases e
theorem rin2_ok {op : Bop} {x y z : D} {v w : V} (e : in2D op x y = some z) (hx : RpT P U ρ n H x v) (hy : RpT P U ρ n H y w) (k : ∀ u, Rp P U ρ n H z u → Q u H) : rIn2 op v w H Q := by
  unfold in2D at e
  split at e
  · have e1 := hx.int
    have e2 := hy.int
    subst e1 e2
    rename_i i j
    have fin : ∀ {i : Int}, z = .int i → Q (.int i) H := fun {i} e => k _ (by rw [e]; exact Rp.mkInt i)
    cases op <;> simp only [binD, Option.some.injEq, reduceCtorEq] at e
    · exact ⟨i, j, rfl, rfl, fin e.symm⟩
    · exact ⟨i, j, rfl, rfl, fin e.symm⟩
    · split at e
      · rename_i hc
        exact ⟨i, j, rfl, rfl, (by unfold CMul; omega), fin (Option.some.inj e).symm⟩
      · cases e
    · split at e
      · rename_i hc
        exact ⟨i, j, rfl, rfl, ⟨hc.1, hc.2.1, by omega⟩, fin (Option.some.inj e).symm⟩
      · cases e
    · split at e
      · rename_i hc
        exact ⟨i, j, rfl, rfl, hc, fin (Option.some.inj e).symm⟩
      · cases e
    · exact ⟨i, j, rfl, rfl, fin e.symm⟩
    · exact ⟨i, j, rfl, rfl, fin e.symm⟩
    · exact ⟨i, j, rfl, rfl, fin e.symm⟩
  · cases e
/-! ### dicts -/
theorem Rkv.keys : ∀ {kvs : List (KK × D)} {ws : List (KK × V)}, Rkv P U ρ n H kvs ws → ws.map (·.1) = kvs.map (·.1)
  | [], _, h => by
    unfold Rkv at h
    rw [h]
    rfl
  | (k, d) :: r, _, h => by
    unfold Rkv at h
    obtain ⟨v, t, rfl, _, h2⟩ := h
    simp [Rkv.keys h2]
theorem Rkv.nil : Rkv P U ρ n H [] [] := by unfold Rkv; rfl
theorem Rkv.cons {k : KK} {d : D} {v : V} {kvs : List (KK × D)} {ws : List (KK × V)} (h : Rp P U ρ n H d v) (t : Rkv P U ρ n H kvs ws) : Rkv P U ρ n H ((k, d) :: kvs) ((k, v) :: ws) := by
  unfold Rkv
  exact ⟨v, ws, rfl, h, t⟩
theorem Rkv.uncons {p : KK × D} {kvs : List (KK × D)} {ws : List (KK × V)} (h : Rkv P U ρ n H (p :: kvs) ws) : ∃ v t, ws = (p.1, v) :: t ∧ Rp P U ρ n H p.2 v ∧ Rkv P U ρ n H kvs t := by
  obtain ⟨k, d⟩ := p
  unfold Rkv at h
  exact h
theorem Rkv.nil_inv {ws : List (KK × V)} (h : Rkv P U ρ n H [] ws) : ws = [] := by unfold Rkv at h; exact h
theorem Rkv.same {d : List (KK × D)} {v : List (KK × V)} (r : Rkv P U ρ n H d v) (s : Same H H') : Rkv P U ρ n H' d v := r.stay (stay_refl s)
def vget (ws : List (KK × V)) (k : KK) : Option V := (ws.find? fun p => decide (p.1 = k)).map (·.2)
theorem Rkv.get {k : KK} : ∀ {kvs : List (KK × D)} {ws : List (KK × V)}, Rkv P U ρ n H kvs ws → (kget kvs k = none ∧ vget ws k = none) ∨ ∃ d v, kget kvs k = some d ∧ vget ws k = some v ∧ Rp P U ρ n H d v
  | [], _, h => by
    rw [h.nil_inv]
    exact .inl ⟨rfl, rfl⟩
  | (k', d) :: r, _, h => by
    obtain ⟨v, t, rfl, h1, h2⟩ := h.uncons
    by_cases e : k' = k
    · refine .inr ⟨d, v, ?_, ?_, h1⟩
      · simp [kget, List.find?_cons, e]
      · simp [vget, List.find?_cons, e]
    · have ih := Rkv.get (k := k) h2
      have e1 : kget ((k', d) :: r) k = kget r k := by simp [kget, List.find?_cons, e]
      have e2 : vget ((k', v) :: t) k = vget t k := by simp [vget, List.find?_cons, e]
      rw [e1, e2]
      exact ih
theorem Rkv.upd {k : KK} {d : D} {v : V} (r : Rp P U ρ n H d v) : ∀ {kvs : List (KK × D)} {ws : List (KK × V)}, Rkv P U ρ n H kvs ws → Rkv P U ρ n H (kvs.map fun p => if p.1 = k then (k, d) else p) (ws.map fun p => if p.1 = k then (k, v) else p)
  | [], _, h => by rw [h.nil_inv]; exact Rkv.nil
  | (k', d') :: t, _, h => by
    obtain ⟨v', t', rfl, h1, h2⟩ := h.uncons
    simp only [List.map_cons]
    by_cases e : k' = k
    · simp only [e, if_true]
      exact Rkv.cons r (Rkv.upd r h2)
    · simp only [e, if_false]
      exact Rkv.cons h1 (Rkv.upd r h2)
theorem Rkv.snoc {k : KK} {d : D} {v : V} (r : Rp P U ρ n H d v) : ∀ {kvs : List (KK × D)} {ws : List (KK × V)}, Rkv P U ρ n H kvs ws → Rkv P U ρ n H (kvs ++ [(k, d)]) (ws ++ [(k, v)])
  | [], _, h => by rw [h.nil_inv]; exact Rkv.cons r Rkv.nil
  | (k', d') :: t, _, h => by
    obtain ⟨v', t', rfl, h1, h2⟩ := h.uncons
    exact Rkv.cons h1 (Rkv.snoc r h2)
theorem Rkv.any {k : KK} : ∀ {kvs : List (KK × D)} {ws : List (KK × V)}, Rkv P U ρ n H kvs ws → ws.any (fun p => decide (p.1 = k)) = kvs.any (fun p => decide (p.1 = k))
  | [], _, h => by rw [h.nil_inv]; rfl
  | (k', d') :: t, _, h => by
    obtain ⟨v', t', rfl, h1, h2⟩ := h.uncons
    simp [Rkv.any h2]
def vput (ws : List (KK × V)) (k : KK) (v : V) : List (KK × V) := if ws.any (fun p => decide (p.1 = k)) then ws.map fun p => if p.1 = k then (k, v) else p else ws ++ [(k, v)]
theorem Rkv.put {k : KK} {d : D} {v : V} {kvs : List (KK × D)} {ws : List (KK × V)} (h : Rkv P U ρ n H kvs ws) (r : Rp P U ρ n H d v) : Rkv P U ρ n H (kput kvs k d) (vput ws k v) := by
  unfold kput vput
  rw [h.any]
  split
  · exact Rkv.upd r h
  · exact Rkv.snoc r h
/-- keys that are ints and texts: a dict of that make -/
theorem HDic.flat {a : Addr} {kvs : List (KK × D)} {ws : List (KK × V)} (h : HDic H a ws) (r : Rkv P U ρ n H kvs ws) (k : kinds true kvs = true) : ∃ l : List (Key × V), H a = some (.dK l) ∧ ws = l.map fun p => (.inl p.1, p.2) := by
  rcases h with h | ⟨l, hne, _, e⟩
  · exact h
  · cases l with
    | nil => exact absurd rfl hne
    | cons p t =>
      have e1 := r.keys
      rw [e] at e1
      cases kvs with
      | nil => simp at e1
      | cons q s =>
        simp only [List.map_cons, List.cons.injEq] at e1
        simp only [kinds, List.all_cons, Bool.and_eq_true] at k
        have := k.1
        rw [← e1.1] at this
        simp [KK.flat] at this
theorem vget_inl (l : List (Key × V)) (k : Key) : vget (l.map fun p => (Sum.inl p.1, p.2)) (.inl k) = valV l k := by
  induction l with
  | nil => rfl
  | cons p t ih =>
    by_cases e : p.1 = k
    · simp [vget, valV, List.find?_cons, e]
    · have e1 : vget (List.map (fun p => (Sum.inl p.1, p.2)) (p :: t)) (.inl k) = vget (t.map fun p => (Sum.inl p.1, p.2)) (.inl k) := by simp [vget, List.find?_cons, e]
      have e2 : valV (p :: t) k = valV t k := by simp [valV, List.find?_cons, e]
      rw [e1, e2, ih]
theorem key_of {d : D} {v : V} {k : Key} (e : d.key = some (.inl k)) (r : RpT P U ρ n H d v) : v = kV k := by
  cases d <;> simp [D.key] at e
  · subst e; exact r.int
  · subst e; exact r.str
theorem key0_of {d : D} {v : V} {k : Key} (e : d.key0 = some k) (r : Rp P U ρ n H d v) : v = kV k := by
  cases d <;> simp [D.key0] at e
  · subst e; exact r.top.int
  · subst e; exact r.top.str
/-- a look into a dict -/
theorem dget_ok {kvs : List (KK × D)} {v w : V} {y : D} {k : KK} (hx : RpT P U ρ n H (.dic kvs) v) (hy : RpT P U ρ n H y w) (ek : y.key = some k) (c : (KK.flat k && kinds true kvs) = true) :
    ∃ a r, v = .ref a ∧ IsD H a ∧ DGet H a w r ∧ ((kget kvs k = none ∧ r = none) ∨ ∃ d u, kget kvs k = some d ∧ r = some u ∧ Rp P U ρ n H d u) := by
  obtain ⟨a, ws, rfl, h1, h2⟩ := hx.dic
  simp only [Bool.and_eq_true] at c
  obtain ⟨l, e1, rfl⟩ := h1.flat h2 c.2
  cases k with
  | inr _ => simp [KK.flat] at c
  | inl k =>
    have ew := key_of ek hy
    subst ew
    refine ⟨a, valV l k, rfl, .inl ⟨l, .inl e1⟩, DGet.k e1, ?_⟩
    rcases Rkv.get (k := .inl k) h2 with ⟨g1, g2⟩ | ⟨d, u, g1, g2, g3⟩
    · rw [vget_inl] at g2
      exact .inl ⟨g1, g2⟩
    · rw [vget_inl] at g2
      exact .inr ⟨d, u, g1, g2, g3⟩

/-! ### comparisons, items, slices -/
theorem rcmp_ok {op : Cop} {x y : D} {z : Bool} {v w : V} (e : cmpD op x y = some z) (hx : RpT P U ρ n H x v) (hy : RpT P U ρ n H y w) (k : Q (.bl z) H) : rCmp P.K op v w H Q := by
  have dn : ∀ {y : D} {kk : KK} {kvs : List (KK × D)}, y = .dic kvs → (KK.flat kk && kinds true kvs) = true → x.key = some kk → RpT P U ρ n H y w → ∃ a r, w = .ref a ∧ DGet H a v r ∧ r.isSome = (kget kvs kk).isSome := by
    intro y kk kvs ey c ek hy
    subst ey
    obtain ⟨a, r, e1, _, e2, e3⟩ := dget_ok hy hx ek c
    refine ⟨a, r, e1, e2, ?_⟩
    rcases e3 with ⟨g1, g2⟩ | ⟨d, u, g1, g2, _⟩ <;> rw [g1, g2] <;> rfl
  cases op with
  | eq =>
    simp only [cmpD] at e
    split at e
    · rename_i hc
      simp only [Bool.and_eq_true] at hc
      cases e
      exact ⟨_, _, hx.dp hc.1, hy.dp hc.2, pl_shaped hc.1 (by omega), pl_shaped hc.2 (by omega), k⟩
    · cases e
  | ne =>
    simp only [cmpD] at e
    split at e
    · rename_i hc
      simp only [Bool.and_eq_true] at hc
      cases e
      exact ⟨_, _, hx.dp hc.1, hy.dp hc.2, pl_shaped hc.1 (by omega), pl_shaped hc.2 (by omega), k⟩
    · cases e
  | lt =>
    cases x <;> cases y <;> simp [cmpD] at e
    rw [hx.int, hy.int]
    subst e; exact ⟨_, _, rfl, rfl, by simpa using k⟩
  | le =>
    cases x <;> cases y <;> simp [cmpD] at e
    rw [hx.int, hy.int]
    subst e; exact ⟨_, _, rfl, rfl, by simpa using k⟩
  | gt =>
    cases x <;> cases y <;> simp [cmpD] at e
    rw [hx.int, hy.int]
    subst e; exact ⟨_, _, rfl, rfl, by simpa using k⟩
  | ge =>
    cases x <;> cases y <;> simp [cmpD] at e
    rw [hx.int, hy.int]
    subst e; exact ⟨_, _, rfl, rfl, by simpa using k⟩
  | isB =>
    cases x <;> cases y <;> simp [cmpD] at e
    rw [hx.bl, hy.bl]
    exact ⟨_, _, rfl, rfl, by rw [← e] at k; simpa using k⟩
  | ntB =>
    cases x <;> cases y <;> simp [cmpD] at e
    rw [hx.bl, hy.bl]
    refine ⟨_, _, rfl, rfl, ?_⟩
    rw [e, Bool.not_not]
    exact k
  | isin =>
    simp only [cmpD] at e
    split at e
    · rename_i kvs
      cases ek : x.key with
      | none => simp [ek] at e
      | some kk =>
        simp only [ek, Option.bind_some] at e
        split at e
        · rename_i hc
          cases e
          obtain ⟨a, r, e1, e2, e3⟩ := dn rfl hc ek hy
          exact .inr (.inr ⟨a, r, e1, e2, by rw [e3]; exact k⟩)
        · cases e
    · split at e
      · rename_i ys es
        split at e
        · rename_i hc
          simp only [Bool.and_eq_true] at hc
          cases e
          obtain ⟨a, vs, rfl, h1, h2⟩ := hy.seq es
          have hd := Rps.dp 60 hc.2 h2
          rcases h1 with h1 | h1
          · exact .inr (.inl ⟨_, pys ys, hx.dp hc.1, .lst h1 hd, pl_shaped hc.1 (by omega), pls_shaped hc.2 (by omega), by rw [pys_any]; exact k⟩)
          · exact .inl ⟨_, pys ys, hx.dp hc.1, .tup h1 hd, pl_shaped hc.1 (by omega), pls_shaped hc.2 (by omega), by rw [pys_any]; exact k⟩
        · cases e
      · cases e
  | ntin =>
    simp only [cmpD] at e
    split at e
    · rename_i kvs
      cases ek : x.key with
      | none => simp [ek] at e
      | some kk =>
        simp only [ek, Option.bind_some] at e
        split at e
        · rename_i hc
          cases e
          obtain ⟨a, r, e1, e2, e3⟩ := dn rfl hc ek hy
          exact .inr (.inr ⟨a, r, e1, e2, by rw [e3]; exact k⟩)
        · cases e
    · split at e
      · rename_i ys es
        split at e
        · rename_i hc
          simp only [Bool.and_eq_true] at hc
          cases e
          obtain ⟨a, vs, rfl, h1, h2⟩ := hy.seq es
          have hd := Rps.dp 60 hc.2 h2
          rcases h1 with h1 | h1
          · exact .inr (.inl ⟨_, pys ys, hx.dp hc.1, .lst h1 hd, pl_shaped hc.1 (by omega), pls_shaped hc.2 (by omega), by rw [pys_any]; exact k⟩)
          · exact .inl ⟨_, pys ys, hx.dp hc.1, .tup h1 hd, pl_shaped hc.1 (by omega), pls_shaped hc.2 (by omega), by rw [pys_any]; exact k⟩
        · cases e
      · cases e
theorem atI_rel {xs : List D} {vs : List V} {j : Int} {z : D} (r : Rps P U ρ n H xs vs) (e : atI xs j = some z) : ∃ u, atI vs j = some u ∧ Rp P U ρ n H z u := by
  unfold atI at *
  rw [r.len]
  cases q : ixN xs.length j with
  | none => rw [q] at e; cases e
  | some i =>
    rw [q] at e
    exact r.at e
theorem ridx_ok {x i z : D} {v w : V} (e : idxD x i = some z) (hx : RpT P U ρ n H x v) (hy : RpT P U ρ n H i w) (k : ∀ u, Rp P U ρ n H z u → Q u H) : (x.isDic = false → rIx P.K v w H Q) ∧ (x.isDic = true → ∃ a u, v = .ref a ∧ DGet H a w (some u) ∧ Q u H) := by
  unfold idxD at e
  split at e
  · rename_i kvs
    cases ek : i.key with
    | none => simp [ek] at e
    | some kk =>
      simp only [ek, Option.bind_some] at e
      split at e
      · rename_i hc
        obtain ⟨a, r, e1, _, e2, e3⟩ := dget_ok hx hy ek hc
        rcases e3 with ⟨g1, g2⟩ | ⟨d, u, g1, g2, g3⟩
        · rw [g1] at e; cases e
        · rw [g1] at e
          cases e
          rw [g2] at e2
          exact ⟨fun z => (nomatch z), fun _ => ⟨a, u, e1, e2, k u g3⟩⟩
      · cases e
  · split at e
    · rename_i xs j es
      obtain ⟨a, vs, rfl, h1, h2⟩ := hx.seq es
      have e1 := hy.int
      subst e1
      obtain ⟨u, e2, e3⟩ := atI_rel h2 e
      refine ⟨fun _ => ?_, fun z => by cases x <;> first | (cases z; done) | (simp [D.seq] at es)⟩
      rcases h1 with h1 | h1
      · exact .inl ⟨a, vs, j, u, rfl, rfl, h1, e2, k u e3⟩
      · exact .inr (.inl ⟨a, vs, j, u, rfl, rfl, h1, e2, k u e3⟩)
    · cases e
theorem cut_rel {xs : List D} {vs : List V} (lo hi : Option Int) (r : Rps P U ρ n H xs vs) : Rps P U ρ n H (cutD xs lo hi) (cutV vs lo hi) := by
  unfold cutD cutV
  rw [r.len]
  exact (r.drop _).take _
theorem rslc_ok {x z : D} {v : V} {lo hi : Option Int} (fr : ∀ p, H p = none → ¬ U p) (e : slcD x lo hi = some z) (hx : RpT P U ρ n H x v) (k : ∀ H' u, Same H H' → Rp P U ρ n H' z u → Q u H') : rSl P.K v lo hi H Q := by
  unfold slcD at e
  split at e <;> first | cases e | skip
  · rename_i xs
    obtain ⟨a, vs, rfl, h1, h2, r⟩ := hx.tup
    refine .inr ⟨a, vs, rfl, h1, fun ⟨q1, q2⟩ => ?_, fun _ p hp => k _ _ (same_upd hp) (Rp.newT fr hp (cut_rel lo hi r))⟩
    have e1 : cutD xs lo hi = xs := by
      unfold cutD
      rw [r.len] at q1 q2
      rw [q1, q2]
      simp
    rw [e1] at k
    exact k H _ (Same.refl H) (Rp.mkT h2 r)
  · obtain ⟨a, vs, rfl, h1, r⟩ := hx.lst
    exact .inl ⟨a, vs, rfl, SqL.of h1, fun p hp => k _ _ (same_upd hp) (Rp.newL fr hp (cut_rel lo hi r))⟩
  · obtain ⟨a, vs, rfl, h1, r⟩ := hx.rol
    exact .inl ⟨a, vs, rfl, h1, fun p hp => k _ _ (same_upd hp) (Rp.newL fr hp (cut_rel lo hi r))⟩
end
end MP

set_option Elab.async false
set_option linter.all false
set_option maxRecDepth 100000
set_option maxHeartbeats 4000000
namespace MP
open PySem PySem.Spec PyProof.Rows L2
section
variable {P : Pm} {U : Addr → Prop} {ρ : Nat → Addr} {n : Nat} {H H' : Hp} {Q : VK}
inductive RpTs (P : Pm) (U : Addr → Prop) (ρ : Nat → Addr) (n : Nat) (H : Hp) : List D → List V → Prop
  | nil : RpTs P U ρ n H [] []
  | cons {d : D} {v : V} {ds : List D} {vs : List V} : RpT P U ρ n H d v → RpTs P U ρ n H ds vs → RpTs P U ρ n H (d :: ds) (v :: vs)
theorem srt_zip : ∀ {xs : List D} {vs : List V}, Rps P U ρ n H xs vs → Rps P U ρ n H (xs.mergeSort fun a b => PySem.W.dataLe false D.py a b) (srtV vs (pys xs)) := by
  intro xs vs h
  -- the pairs of a value and its data, sorted by the data, against the values sorted
  have key : ∀ (l : List (D × V)), (∀ p ∈ l, Rp P U ρ n H p.1 p.2) → Rps P U ρ n H (l.map Prod.fst) (l.map Prod.snd) := by
    intro l
    induction l with
    | nil => intro _; exact Rps.nil
    | cons p t ih => intro hp; exact Rps.cons (hp p List.mem_cons_self) (ih fun q hq => hp q (List.mem_cons_of_mem _ hq))
  have hz : ∀ {xs : List D} {vs : List V}, Rps P U ρ n H xs vs → (xs.zip vs).map Prod.fst = xs ∧ vs.zip (pys xs) = (xs.zip vs).map (fun p => (p.2, p.1.py)) ∧ ∀ p ∈ xs.zip vs, Rp P U ρ n H p.1 p.2 := by
    intro xs
    induction xs with
    | nil => intro vs h; rw [h.nil_inv]; exact ⟨rfl, rfl, fun _ h => by simp at h⟩
    | cons d t ih =>
      intro vs h
      obtain ⟨v, us, rfl, h1, h2⟩ := h.uncons
      obtain ⟨i1, i2, i3⟩ := ih h2
      refine ⟨by simp [i1], by simp [pys, i2], fun p hp => ?_⟩
      rcases List.mem_cons.mp (by simpa using hp) with e | hp
      · rw [e]; exact h1
      · exact i3 p (by simpa using hp)
  obtain ⟨z1, z2, z3⟩ := hz h
  unfold srtV
  rw [z2]
  have m1 : xs.mergeSort (fun a b => PySem.W.dataLe false D.py a b) = ((xs.zip vs).mergeSort fun a b => PySem.W.dataLe false D.py a.1 b.1).map Prod.fst := by
    rw [List.map_mergeSort (s := fun a b => PySem.W.dataLe false D.py a b), z1]
    intro a ha b hb
    rfl
  have m2 : ((xs.zip vs).map fun p => (p.2, p.1.py)).mergeSort (PySem.W.dataLe false Prod.snd) = ((xs.zip vs).mergeSort fun a b => PySem.W.dataLe false D.py a.1 b.1).map fun p => (p.2, p.1.py) := by
    rw [List.map_mergeSort (s := PySem.W.dataLe false Prod.snd)]
    intro a ha b hb
    rfl
  rw [m1, m2, List.map_map]
  exact key _ fun p hp => z3 p (by simpa using hp)
theorem pair_rel : ∀ {xs : List D} {vs : List V} {kvs : List (KK × D)}, pairsD xs = some kvs → Rps P U ρ n H xs vs →
    ∃ (ps : List Addr) (l : List (Key × V)), vs = ps.map V.ref ∧ Paired (fun p kv => SqT P.K H p [kV kv.1, kv.2]) ps l ∧ Rkv P U ρ n H kvs (l.map fun p => (.inl p.1, p.2))
  | [], vs, kvs, e, h => by
    simp [pairsD] at e
    subst e
    exact ⟨[], [], h.nil_inv, .nil, Rkv.nil⟩
  | d :: t, vs, kvs, e, h => by
    obtain ⟨v, us, rfl, h1, h2⟩ := h.uncons
    match d, e with
    | .tup [k, x], e =>
      simp only [pairsD] at e
      cases ek : k.key0 with
      | none => simp [ek] at e
      | some kk =>
        cases et : pairsD t with
        | none => simp [ek, et] at e
        | some tt =>
          simp only [ek, et, Option.some.injEq] at e
          subst e
          obtain ⟨ps, l, rfl, q1, q2⟩ := pair_rel et h2
          obtain ⟨a, ws, rfl, s1, _, r⟩ := h1.top.tup
          obtain ⟨w1, t1, rfl, r1, r2⟩ := r.uncons
          obtain ⟨w2, t2, rfl, r3, r4⟩ := r2.uncons
          have e4 := r4.nil_inv
          subst e4
          have e5 := key0_of ek r1
          subst e5
          exact ⟨a :: ps, (kk, w2) :: l, rfl, .cons s1 q1, Rkv.cons r3 q2⟩
theorem vput_inl (wl : List (Key × V)) (k : Key) (v : V) : vput (wl.map fun p => ((.inl p.1 : KK), p.2)) (.inl k) v = (putK wl k v).map fun p => (.inl p.1, p.2) := by
  have ha : ((wl.map fun p => ((Sum.inl p.1 : KK), p.2)).any fun p => decide (p.1 = .inl k)) = wl.any fun p => decide (p.1 = k) := by
    rw [List.any_map]
    congr 1
    funext p
    simp
  unfold vput putK
  rw [ha]
  split
  · rw [List.map_map, List.map_map]
    apply List.map_congr_left
    intro p _
    by_cases e : p.1 = k
    · simp [e]
    · simp [e]
  · simp
theorem merge_rel : ∀ (l : List (Key × V)) {m : List (KK × D)} {acc : List (KK × D)} {wl : List (Key × V)}, Rkv P U ρ n H m (l.map fun p => (.inl p.1, p.2)) → Rkv P U ρ n H acc (wl.map fun p => (.inl p.1, p.2)) →
    Rkv P U ρ n H (mergeD acc m) ((mergeK wl l).map fun p => (.inl p.1, p.2))
  | [], m, acc, wl, h, k => by
    cases m with
    | nil => exact k
    | cons p t =>
      obtain ⟨v, s, e, _⟩ := h.uncons
      cases e
  | (pk, pv) :: t, m, acc, wl, h, k => by
    cases m with
    | nil => exact absurd h.nil_inv (by simp)
    | cons q s =>
      obtain ⟨qk, qd⟩ := q
      obtain ⟨v, s', e, h1, h2⟩ := h.uncons
      simp only [List.map_cons, List.cons.injEq, Prod.mk.injEq] at e
      obtain ⟨⟨rfl, rfl⟩, rfl⟩ := e
      have put := Rkv.put (k := .inl pk) k h1
      rw [vput_inl] at put
      exact merge_rel t (m := s) (acc := kput acc (.inl pk) qd) h2 put
theorem isi_kit {t m : String} {b : Bool} {d : D} (ht : tyOf d = some t) (e : isiB t m = some b) : kitB t m = some b := by
  have hm : m = "int" ∨ m = "bool" ∨ m = "str" ∨ m = "tuple" ∨ m = "list" ∨ m = "dict" := by
    unfold isiB at e
    split at e
    · assumption
    · cases e
  unfold isiB at e
  rw [if_pos hm] at e
  have e := Option.some.inj e
  subst e
  have htt : t = "NoneType" ∨ t = "bool" ∨ t = "int" ∨ t = "str" ∨ t = "tuple" ∨ t = "list" ∨ t = "dict" := by
    cases d <;> simp [tyOf] at ht <;> simp [← ht]
  rcases htt with rfl | rfl | rfl | rfl | rfl | rfl | rfl <;> rcases hm with rfl | rfl | rfl | rfl | rfl | rfl <;> decide +kernel
theorem ty_of {d : D} {v : V} {t : String} (e : tyOf d = some t) (r : RpT P U ρ n H d v) : TyX P.K H v (.type t) := by
  cases d <;> simp [tyOf] at e <;> subst e
  · rw [r.non]; exact .base .non
  · rw [r.bl]; exact .base (.bl _)
  · rw [r.int]; exact .base (.int _)
  · rw [r.str]; exact .base (.str _)
  · obtain ⟨a, vs, rfl, _, h, _⟩ := r.tup
    rcases h with ⟨h, _⟩ | ⟨o, its, m, h1, h2, _⟩
    · exact .base (.tup h)
    · exact .kTuple h1 h2
  · obtain ⟨a, vs, rfl, h, _⟩ := r.lst
    exact .base (.lst h)
  · have r : Rp P U ρ n H (.rol _) v := r
    unfold Rp at r
    obtain ⟨a, vs, rfl, h, _⟩ := r
    rcases h with ⟨o, h, _⟩ | ⟨o, its, m, h1, h2, _⟩
    · exact .base (.frz h)
    · exact .kList h1 h2
  · obtain ⟨a, ws, rfl, h, _⟩ := r.dic
    rcases h with ⟨l, h, _⟩ | ⟨l, _, h, _⟩
    · exact .base (.dK h)
    · exact .base (.dT h)
theorem foldl_py (lt : PyData → PyData → Bool) : ∀ (r : List D) (x : D), (r.foldl (fun a y => if lt y.py a.py then y else a) x).py = (pys r).foldl (fun a y => if lt y a then y else a) x.py
  | [], _ => rfl
  | y :: r, x => by
    simp only [List.foldl_cons, pys]
    rw [foldl_py lt r]
    split <;> rfl
theorem foldl_mem (lt : PyData → PyData → Bool) : ∀ (r : List D) (x : D), r.foldl (fun a y => if lt y.py a.py then y else a) x ∈ x :: r
  | [], _ => by simp
  | y :: r, x => by
    simp only [List.foldl_cons]
    by_cases c : lt y.py x.py = true
    · rw [if_pos c]
      exact List.mem_cons_of_mem _ (foldl_mem lt r y)
    · rw [if_neg c]
      rcases List.mem_cons.mp (foldl_mem lt r x) with h | h
      · rw [h]
        exact List.mem_cons_self
      · exact List.mem_cons_of_mem _ (List.mem_cons_of_mem _ h)
mutual
theorem py_inj : ∀ (a b : D), a.imm = true → b.imm = true → a.py = b.py → a = b
  | .non, b, _, hb, e => by cases b <;> simp [D.imm, D.py] at hb e ⊢
  | .bl _, b, _, hb, e => by cases b <;> simp [D.imm, D.py] at hb e ⊢ <;> exact e
  | .int _, b, _, hb, e => by cases b <;> simp [D.imm, D.py] at hb e ⊢ <;> exact e
  | .str _, b, _, hb, e => by cases b <;> simp [D.imm, D.py] at hb e ⊢ <;> exact e
  | .tup xs, b, ha, hb, e => by
    cases b <;> simp [D.imm, D.py] at hb e ⊢
    exact pys_inj xs _ (by simpa [D.imm] using ha) hb e
  | .ty _, b, ha, _, _ => by simp [D.imm] at ha
  | .lst _, b, ha, _, _ => by simp [D.imm] at ha
  | .rol _, b, ha, _, _ => by simp [D.imm] at ha
  | .dic _, b, ha, _, _ => by simp [D.imm] at ha
  | .ins _ _, b, ha, _, _ => by simp [D.imm] at ha
  | .ref _, b, ha, _, _ => by simp [D.imm] at ha
theorem pys_inj : ∀ (a b : List D), imms a = true → imms b = true → pys a = pys b → a = b
  | [], [], _, _, _ => rfl
  | [], _ :: _, _, _, e => by simp [pys] at e
  | _ :: _, [], _, _, e => by simp [pys] at e
  | x :: xs, y :: ys, ha, hb, e => by
    simp only [imms, Bool.and_eq_true] at ha hb
    simp only [pys, List.cons.injEq] at e
    rw [py_inj x y ha.1 hb.1 e.1, pys_inj xs ys ha.2 hb.2 e.2]
end
theorem imms_mem : ∀ {xs : List D} {x : D}, imms xs = true → x ∈ xs → x.imm = true
  | [], _, _, h => by simp at h
  | y :: ys, x, hi, h => by
    simp only [imms, Bool.and_eq_true] at hi
    rcases List.mem_cons.mp h with rfl | h
    · exact hi.1
    · exact imms_mem hi.2 h
theorem pys_at : ∀ {xs : List D} {i : Nat}, (pys xs)[i]? = (xs[i]?).map D.py
  | [], _ => by simp [pys]
  | x :: xs, 0 => by simp [pys]
  | x :: xs, i + 1 => by simp [pys, pys_at (xs := xs) (i := i)]
theorem rpick_ok {lt : PyData → PyData → Bool} {xs : List D} {z : D} {a : Addr} {vs : List V} (e : pickD lt xs = some z) (h1 : H a = some (.lst vs)) (r : Rps P U ρ n H xs vs) (k : ∀ u, Rp P U ρ n H z u → Q u H) :
    rMinD P.K (fun d ds => ds.foldl (fun a y => if lt y a then y else a) d) [.ref a] H Q := by
  unfold pickD at e
  split at e
  · cases e
  · rename_i x t
    split at e
    · rename_i hc
      obtain ⟨c1, c2, c3⟩ := hc
      cases e
      have hd := Rps.dp 59 c2 r
      obtain ⟨_, q2⟩ := pls_ok _ _ c2
      refine ⟨a, vs, x.py, pys t, rfl, SqL.of h1, hd, c3, by show PyData.depthAll (pys (x :: t)) ≤ 60; omega, fun i u hu hm => ?_⟩
      obtain ⟨d, hd, rd⟩ := r.back hu
      have e1 : (pys (x :: t))[i]? = some d.py := by rw [pys_at, hd]; rfl
      have e2 : (pys (x :: t))[i]? = some ((pys t).foldl (fun a y => if lt y a then y else a) x.py) := hm
      rw [e1, ← foldl_py] at e2
      have e3 := py_inj d _ (imms_mem c1 (List.mem_of_getElem? hd)) (imms_mem c1 (foldl_mem lt t x)) (Option.some.inj e2)
      rw [← e3] at k
      exact k u rd
    · cases e
theorem sort_ints {ns ys : List Int} (h : ys.Perm ns) (s : ys.Pairwise (· ≤ ·)) : ys = ns.mergeSort fun a b => decide (a ≤ b) := by
  have h2 : (ns.mergeSort fun a b => decide (a ≤ b)).Perm ns := List.mergeSort_perm _ _
  have s2 : (ns.mergeSort fun a b => decide (a ≤ b)).Pairwise (fun a b => decide (a ≤ b) = true) := List.pairwise_mergeSort (fun a b c h1 h2 => by simp at *; omega) (fun a b => by simp; omega) _
  exact (h.trans h2.symm).eq_of_pairwise (le := fun a b => a ≤ b) (fun a b _ _ h1 h2 => by omega) s (s2.imp fun h => by simpa using h)
theorem rbi_ok {b : Bi} {ds : List D} {z : D} {vs : List V} (fr : ∀ p, H p = none → ¬ U p) (e : biD b ds = some z) (r : RpTs P U ρ n H ds vs) (k : ∀ H' u, Same H H' → Rp P U ρ n H' z u → Q u H') : rBi P.K b vs H Q := by
  have k0 : ∀ u, Rp P U ρ n H z u → Q u H := fun u h => k H u (Same.refl H) h
  unfold biD at e
  split at e
  · -- len
    rename_i x
    cases r with
    | cons r t =>
      cases t
      split at e
      · split at e
        · rename_i hc
          cases e
          obtain ⟨a, ws, rfl, h1, h2⟩ := r.dic
          obtain ⟨l, e1, rfl⟩ := h1.flat h2 hc
          refine .inr ⟨a, l, rfl, e1, k0 _ ?_⟩
          have := congrArg List.length h2.keys
          simp at this
          rw [this]
          exact Rp.mkInt _
        · cases e
      · split at e
        · rename_i hc
          cases e
          rw [r.str]
          exact .inl ⟨_, _, rfl, ⟨lim_le hc, rfl⟩, k0 _ (Rp.mkInt _)⟩
        · cases e
      · obtain ⟨xs, e1, rfl⟩ := Option.map_eq_some_iff.mp e
        obtain ⟨a, ws, rfl, h1, h2⟩ := r.seq e1
        refine .inl ⟨_, ws.length, rfl, ?_, k0 _ (by rw [h2.len]; exact Rp.mkInt _)⟩
        rcases h1 with h1 | h1
        · exact .inl ⟨ws, h1, rfl⟩
        · exact .inr ⟨ws, h1, rfl⟩
  · -- sum
    cases r with
    | cons r t =>
      cases t
      split at e
      · obtain ⟨ns, e1, rfl⟩ := Option.map_eq_some_iff.mp e
        obtain ⟨a, ws, rfl, h1, h2⟩ := r.lst
        exact ⟨a, ns, rfl, by rw [← Rps.of_ints e1 h2]; exact SqL.of h1, k0 _ (Rp.mkInt _)⟩
      · obtain ⟨ns, e1, rfl⟩ := Option.map_eq_some_iff.mp e
        obtain ⟨a, ws, rfl, h1, h2⟩ := r.rol
        exact ⟨a, ns, rfl, by rw [← Rps.of_ints e1 h2]; exact h1, k0 _ (Rp.mkInt _)⟩
      · cases e
  · cases r with
    | cons r t =>
      cases t
      obtain ⟨a, ws, rfl, h1, h2⟩ := r.lst
      exact rpick_ok e h1 h2 k0
  · cases r with
    | cons r t =>
      cases t
      obtain ⟨a, ws, rfl, h1, h2⟩ := r.lst
      exact rpick_ok e h1 h2 k0
  · cases r with
    | cons r t =>
      cases t
      obtain ⟨ns, e1, rfl⟩ := Option.map_eq_some_iff.mp e
      obtain ⟨a, ws, rfl, h1, h2⟩ := r.lst
      exact ⟨a, ns, rfl, by rw [← Rps.of_bls e1 h2]; exact SqL.of h1, k0 _ (Rp.mkBl _)⟩
  · cases r with
    | cons r t =>
      cases t
      obtain ⟨ns, e1, rfl⟩ := Option.map_eq_some_iff.mp e
      obtain ⟨a, ws, rfl, h1, h2⟩ := r.lst
      exact ⟨a, ns, rfl, by rw [← Rps.of_bls e1 h2]; exact SqL.of h1, k0 _ (Rp.mkBl _)⟩
  · -- sorted
    have so : ∀ {xs ys : List D} {a : Addr} {ws : List V}, sortD xs = some ys → z = .lst ys → SqL P.K H a ws → Rps P U ρ n H xs ws → rSortD P.K [.ref a] H Q := by
      intro xs ys a ws e1 ez h1 h2
      unfold sortD at e1
      split at e1
      · rename_i hc
        obtain ⟨c1, c2, c3⟩ := hc
        cases e1
        obtain ⟨_, q2⟩ := pls_ok _ _ c1
        refine ⟨a, ws, pys xs, rfl, h1, Rps.dp 60 c1 h2, c2, c3, fun d hd => ?_, fun p hp => k _ _ (same_upd hp) (by rw [ez]; exact Rp.newL fr hp (srt_zip h2))⟩
        have : ∀ {ds : List PyData}, d ∈ ds → d.depth ≤ PyData.depthAll ds := by
          intro ds
          induction ds with
          | nil => intro h; simp at h
          | cons y t ih =>
            intro h
            simp only [PyData.depthAll]
            rcases List.mem_cons.mp h with rfl | h
            · omega
            · have := ih h; omega
        have := this hd
        omega
      · cases e1
    cases r with
    | cons r t =>
      cases t
      split at e
      · obtain ⟨ys, e1, ez⟩ := Option.map_eq_some_iff.mp e
        obtain ⟨a, ws, rfl, h1, h2⟩ := r.lst
        exact .inl (so e1 ez.symm (SqL.of h1) h2)
      · obtain ⟨ys, e1, ez⟩ := Option.map_eq_some_iff.mp e
        obtain ⟨a, ws, rfl, h1, h2⟩ := r.rol
        exact .inl (so e1 ez.symm h1 h2)
      · split at e
        · rename_i kvs hc
          simp only [Bool.and_eq_true, decide_eq_true_eq] at hc
          obtain ⟨ns, e1, rfl⟩ := Option.map_eq_some_iff.mp e
          obtain ⟨a, ws, rfl, h1, h2⟩ := r.dic
          obtain ⟨l, e2, rfl⟩ := h1.flat h2 hc.1
          have hk : l.map (·.1) = ns.map Sum.inl := by
            have hk := h2.keys
            rw [List.map_map] at hk
            have : ∀ {kvs : List (KK × D)} {l : List (Key × V)} {ns : List Int}, l.map ((fun x => x.1) ∘ fun p => ((Sum.inl p.1 : KK), p.2)) = kvs.map (·.1) → intsD (kvs.map fun p => kkD p.1) = some ns → l.map (·.1) = ns.map Sum.inl := by
              intro kvs
              induction kvs with
              | nil =>
                intro l ns h1 h2
                simp [intsD] at h2
                subst h2
                simp at h1
                simp [h1]
              | cons q t ih =>
                intro l ns h1 h2
                cases l with
                | nil => simp at h1
                | cons p s =>
                  simp only [List.map_cons, List.cons.injEq, Function.comp_apply] at h1
                  obtain ⟨g1, g2⟩ := h1
                  simp only [List.map_cons, ← g1] at h2
                  cases hp : p.1 with
                  | inr x => simp [kkD, kD, hp, intsD] at h2
                  | inl i =>
                    simp only [kkD, kD, hp, intsD] at h2
                    obtain ⟨ms, g3, rfl⟩ := Option.map_eq_some_iff.mp h2
                    simp [hp, ih g2 g3]
            exact this hk e1
          have hl : ns.length < 64 := by
            have a1 := congrArg List.length hk
            have a2 := congrArg List.length h2.keys
            simp at a1 a2
            omega
          refine .inr ⟨a, l, ns, rfl, .inl e2, hk, hl, fun ys p hp hs hf => k _ _ (same_upd hf) ?_⟩
          rw [sort_ints hp hs]
          exact Rp.newL fr hf (Rps.ints _)
        · cases e
      · cases e
  · -- list
    cases r with
    | cons r t =>
      cases t
      obtain ⟨xs, e1, rfl⟩ := Option.map_eq_some_iff.mp e
      obtain ⟨a, ws, rfl, h1, h2⟩ := r.seq e1
      exact ⟨a, ws, rfl, h1, fun p hp => k _ _ (same_upd hp) (Rp.newL fr hp h2)⟩
  · -- tuple
    cases r with
    | cons r t =>
      cases t
      rename_i x _
      cases x <;> simp [D.seq] at e <;> subst e
      · obtain ⟨a, ws, rfl, h1, h3, h2⟩ := r.tup
        exact ⟨a, ws, rfl, .inr ⟨h1, k0 _ (Rp.mkT h3 h2)⟩⟩
      · obtain ⟨a, ws, rfl, h1, h2⟩ := r.lst
        exact ⟨a, ws, rfl, .inl ⟨SqL.of h1, fun p hp => k _ _ (same_upd hp) (Rp.newT fr hp h2)⟩⟩
      · obtain ⟨a, ws, rfl, h1, h2⟩ := r.rol
        exact ⟨a, ws, rfl, .inl ⟨h1, fun p hp => k _ _ (same_upd hp) (Rp.newT fr hp h2)⟩⟩
  · -- dict
    cases r with
    | cons r t =>
      cases t
      split at e
      · obtain ⟨kvs, e1, rfl⟩ := Option.map_eq_some_iff.mp e
        obtain ⟨a, ws, rfl, h1, h2⟩ := r.lst
        obtain ⟨ps, l, rfl, q1, q2⟩ := pair_rel e1 h2
        refine .inl ⟨a, ps, l, rfl, SqL.of h1, q1, fun p hp => k _ _ (same_upd hp) ?_⟩
        unfold Rp
        exact ⟨p, _, rfl, ⟨.inl ⟨_, upd_same, rfl⟩, fr p hp⟩, (merge_rel l (wl := []) q2 Rkv.nil).same (same_upd hp)⟩
      · split at e
        · rename_i kvs hc
          cases e
          obtain ⟨a, ws, rfl, h1, h2⟩ := r.dic
          obtain ⟨l, e2, rfl⟩ := h1.flat h2 hc
          refine .inr ⟨a, l, rfl, .inl e2, fun p hp => k _ _ (same_upd hp) ?_⟩
          unfold Rp
          exact ⟨p, _, rfl, ⟨.inl ⟨_, upd_same, rfl⟩, fr p hp⟩, h2.same (same_upd hp)⟩
        · cases e
      · cases e
  · cases r with
    | cons r t =>
      cases t
      cases e
      rw [r.int]
      exact .inl ⟨_, rfl, k0 _ (Rp.mkInt _)⟩
  · cases r with
    | cons r t =>
      cases t
      cases e
      rw [r.bl]
      exact .inr ⟨_, rfl, k0 _ (Rp.mkInt _)⟩
  · -- isinstance
    cases r with
    | cons r t =>
      cases t with
      | cons r2 t =>
        cases t
        split at e
        · rename_i t ht
          obtain ⟨b, e1, rfl⟩ := Option.map_eq_some_iff.mp e
          rw [r2.ty]
          exact ⟨_, _, .type t, _, b, rfl, .ty _, ty_of ht r, kit_ty (isi_kit ht e1), k0 _ (Rp.mkBl _)⟩
        · cases e
  · cases r with
    | cons r t =>
      cases t
      cases e
      rw [r.int]
      exact ⟨_, rfl, k0 _ (Rp.mkInt _)⟩
  · cases r with
    | cons r t =>
      cases t with
      | cons r2 t =>
        cases t
        cases e
        rw [r.int, r2.int]
        exact ⟨_, _, rfl, k0 _ (Rp.mkInt _)⟩
  · cases r with
    | cons r t =>
      cases t with
      | cons r2 t =>
        cases t
        cases e
        rw [r.int, r2.int]
        exact ⟨_, _, rfl, k0 _ (Rp.mkInt _)⟩
  · cases e
end
end MP

set_option Elab.async false
set_option linter.all false
set_option maxRecDepth 100000
set_option maxHeartbeats 4000000
namespace MP
open PySem PySem.Spec PyProof.Rows L2
section
variable {P : Pm} {A A' : Addr → Prop} {o o' o'' : Loc → Option Addr} {h h' h'' : MH} {H H' H'' : Hp} {env : MEnv} {σ : L2.St} {p : Addr}

/-! ### the relation under another set of one's own -/
theorem ObR.stay {n n' : Nat} {r : Nat} {m : MObj} (st : Stay (UU A o) (UU A' o') (rho o) (rho o') n n' H H') (eo : o' (.ob r) = o (.ob r)) (ef : ∀ j, o' (.fl r j) = o (.fl r j)) (k : ∀ l a, o l = some a → (∃ j, l = .fl r j) ∨ l = .ob r → H' a = H a)
    (x : ObR P A o n H r m) : ObR P A' o' n' H' r m := by
  obtain ⟨a, e1, x⟩ := x
  have ea : H' a = H a := k _ a e1 (.inr rfl)
  refine ⟨a, eo.trans e1, ?_⟩
  cases m with
  | ins c fs =>
    obtain ⟨dx, gs, h1, h2, h3, h4, h5, h6⟩ := x
    refine ⟨dx, gs, ea.trans h1, h2, h3, h4, fun j sl ej => ⟨?_, (h5 j sl ej).2⟩, fun j hj => (ef j).trans (h6 j hj)⟩
    rw [ef j]
    have y := (h5 j sl ej).1
    cases sl with
    | un => exact y
    | val d => exact ⟨y.1, y.2.imp fun x q => ⟨q.1, q.2.stay st⟩⟩
    | ol xs =>
      obtain ⟨b, vs, e1, e2, e3, r⟩ := y
      exact ⟨b, vs, e1, e2, (k _ b e2 (.inl ⟨j, rfl⟩)).trans e3, r.stay st⟩
    | od kvs =>
      obtain ⟨b, ws, e1, e2, e3, r⟩ := y
      exact ⟨b, ws, e1, e2, e3.keep (k _ b e2 (.inl ⟨j, rfl⟩)), r.stay st⟩
  | lst xs =>
    obtain ⟨⟨vs, h1, h2⟩, h3⟩ := x
    exact ⟨⟨vs, ea.trans h1, h2.stay st⟩, fun j => (ef j).trans (h3 j)⟩
  | dic kvs =>
    obtain ⟨⟨ws, h1, h2⟩, h3⟩ := x
    exact ⟨⟨ws, h1.keep ea, h2.stay st⟩, fun j => (ef j).trans (h3 j)⟩
/-- slots under X are put aside -/
def hideO (X : Nat → Bool) (o : Loc → Option Addr) : Loc → Option Addr
  | .sl i => if X i then none else o (.sl i)
  | l => o l
def hideA (X : Nat → Bool) (A : Addr → Prop) (o : Loc → Option Addr) (a : Addr) : Prop := A a ∨ ∃ i, X i = true ∧ o (.sl i) = some a
/-- put back -/
def backO (o o2 : Loc → Option Addr) : Loc → Option Addr
  | .sl i => o (.sl i)
  | l => o2 l
theorem uu_hide (X : Nat → Bool) : UU (hideA X A o) (hideO X o) = UU A o := by
  funext a
  apply propext
  constructor
  · rintro ((u | ⟨i, _, e⟩) | ⟨l, e⟩)
    · exact .inl u
    · exact .inr ⟨_, e⟩
    · cases l with
      | sl i =>
        unfold hideO at e
        cases q : X i with
        | true => simp [q] at e
        | false => exact .inr ⟨.sl i, by simpa [q] using e⟩
      | ob r => exact .inr ⟨_, e⟩
      | fl r j => exact .inr ⟨_, e⟩
  · rintro (u | ⟨l, e⟩)
    · exact .inl (.inl u)
    · cases l with
      | sl i =>
        cases q : X i with
        | true => exact .inl (.inr ⟨i, q, e⟩)
        | false => exact .inr ⟨.sl i, by unfold hideO; simp [q, e]⟩
      | ob r => exact .inr ⟨.ob r, e⟩
      | fl r j => exact .inr ⟨.fl r j, e⟩
theorem rho_hide (X : Nat → Bool) : rho (hideO X o) = rho o := rfl
theorem hideO_le {X : Nat → Bool} {l : Loc} {a : Addr} (e : hideO X o l = some a) : o l = some a := by
  cases l with
  | sl i =>
    unfold hideO at e
    cases q : X i with
    | true => simp [q] at e
    | false => simpa [q] using e
  | ob r => exact e
  | fl r j => exact e
theorem RelH.hide (X : Nat → Bool) (R : RelH P A o h H) : RelH P (hideA X A o) (hideO X o) h H where
  inj := fun l l' a e e' => R.inj l l' a (hideO_le e) (hideO_le e')
  apart := fun l a e u => by
    rcases u with u | ⟨i, q, e2⟩
    · exact R.apart l a (hideO_le e) u
    · have := R.inj _ _ _ (hideO_le e) e2
      subst this
      unfold hideO at e
      simp [q] at e
  live := fun a u => by
    rcases u with u | ⟨i, q, e2⟩
    · exact R.live a u
    · exact R.ol _ a e2
  ol := fun l a e => R.ol l a (hideO_le e)
  ob := fun r m e => by
    refine ObR.stay (o := o) (A := A) ?_ rfl (fun _ => rfl) (fun _ _ _ _ => rfl) (R.ob r m e)
    rw [uu_hide]
    exact stay_same (Same.refl H) _
  far := fun r hr => R.far r hr
theorem Stp.hide (X : Nat → Bool) (s : Stp (hideA X A o) (hideO X o) h H o' h' H') (R' : RelH P (hideA X A o) o' h' H') : Stp A o h H (backO o o') h' H' where
  keep := fun a e u => by
    have u1 : ¬ UU (hideA X A o) (hideO X o) a := by rw [uu_hide]; exact u
    obtain ⟨h1, h2⟩ := s.keep a e u1
    refine ⟨h1, ?_⟩
    rintro (v | ⟨l, q⟩)
    · exact u (.inl v)
    · cases l with
      | sl i => exact u (.inr ⟨_, q⟩)
      | ob r => exact h2 (.inr ⟨_, q⟩)
      | fl r j => exact h2 (.inr ⟨_, q⟩)
  sl := fun i => rfl
  slk := fun i a e => by
    cases q : X i with
    | true => exact s.ak a (.inr ⟨i, q, e⟩)
    | false => exact s.slk i a (by unfold hideO; simp [q, e])
  ak := fun a u => s.ak a (.inl u)
  ob := fun r hr => s.ob r hr
  len := s.len
theorem uu_back (X : Nat → Bool) (s : Stp (hideA X A o) (hideO X o) h H o' h' H') : UU A (backO o o') = UU (hideA X A o) o' := by
  have e1 : ∀ i, X i = false → o' (.sl i) = o (.sl i) := fun i q => by rw [s.sl i]; unfold hideO; simp [q]
  funext a
  apply propext
  constructor
  · rintro (u | ⟨l, e⟩)
    · exact .inl (.inl u)
    · cases l with
      | sl i =>
        cases q : X i with
        | true => exact .inl (.inr ⟨i, q, e⟩)
        | false => exact .inr ⟨.sl i, (e1 i q).trans e⟩
      | ob r => exact .inr ⟨.ob r, e⟩
      | fl r j => exact .inr ⟨.fl r j, e⟩
  · rintro ((u | ⟨i, _, e⟩) | ⟨l, e⟩)
    · exact .inl u
    · exact .inr ⟨.sl i, e⟩
    · cases l with
      | sl i =>
        have e2 := s.sl i
        rw [e] at e2
        exact .inr ⟨.sl i, hideO_le (X := X) e2.symm⟩
      | ob r => exact .inr ⟨.ob r, e⟩
      | fl r j => exact .inr ⟨.fl r j, e⟩
theorem RelH.back (X : Nat → Bool) (R : RelH P A o h H) (s : Stp (hideA X A o) (hideO X o) h H o' h' H') (R' : RelH P (hideA X A o) o' h' H') : RelH P A (backO o o') h' H' := by
  have e1 : ∀ i, X i = false → o' (.sl i) = o (.sl i) := fun i q => by rw [s.sl i]; unfold hideO; simp [q]
  have cross : ∀ i l a, (∀ j, l ≠ .sl j) → o (.sl i) = some a → o' l = some a → False := fun i l a hl e e' => by
    cases q : X i with
    | true => exact R'.apart l a e' (.inr ⟨i, q, e⟩)
    | false => exact hl i (R'.inj _ _ _ e' ((e1 i q).trans e))
  refine ⟨fun l l' a e e' => ?_, fun l a e u => ?_, fun a u => R'.live a (.inl u), fun l a e => ?_, fun r m e => ?_, fun r hr => R'.far r hr⟩
  · cases l with
    | sl i =>
      cases l' with
      | sl j => exact R.inj _ _ a e e'
      | ob r => exact (cross i _ a (fun _ z => Loc.noConfusion z) e e').elim
      | fl r j => exact (cross i _ a (fun _ z => Loc.noConfusion z) e e').elim
    | ob r =>
      cases l' with
      | sl j => exact (cross j _ a (fun _ z => Loc.noConfusion z) e' e).elim
      | ob r => exact R'.inj _ _ a e e'
      | fl r j => exact R'.inj _ _ a e e'
    | fl r j =>
      cases l' with
      | sl j => exact (cross j _ a (fun _ z => Loc.noConfusion z) e' e).elim
      | ob r => exact R'.inj _ _ a e e'
      | fl r j => exact R'.inj _ _ a e e'
  · cases l with
    | sl i => exact R.apart _ a e u
    | ob r => exact R'.apart _ a e (.inl u)
    | fl r j => exact R'.apart _ a e (.inl u)
  · cases l with
    | sl i =>
      cases q : X i with
      | true => exact R'.live a (.inr ⟨i, q, e⟩)
      | false => exact R'.ol (.sl i) a ((e1 i q).trans e)
    | ob r => exact R'.ol _ a e
    | fl r j => exact R'.ol _ a e
  · refine ObR.stay (o := o') (A := hideA X A o) ?_ rfl (fun _ => rfl) (fun _ _ _ _ => rfl) (R'.ob r m e)
    rw [uu_back X s]
    exact stay_same (Same.refl H') _
/-- the slots, behind a step -/
theorem Rel.step (R : Rel P A o env h σ H) (s : Stp A o h H o' h' H') (R' : RelH P A o' h' H') : Rel P A o' env h' σ H' :=
  { R' with
    len := R.len
    sl := fun i sl e => by
      have x := R.sl i sl e
      rw [s.sl i]
      exact x.stay s.stay fun a ea => s.slk i a ea
    slf := fun i hi => (s.sl i).trans (R.slf i hi) }

/-! ### one more address of one's own, in no slot -/
def addA (A : Addr → Prop) (d : Addr) (a : Addr) : Prop := A a ∨ a = d
theorem uu_add {d a : Addr} : UU (addA A d) o a ↔ UU A o a ∨ a = d := by
  constructor
  · rintro ((u | u) | u)
    · exact .inl (.inl u)
    · exact .inr u
    · exact .inl (.inr u)
  · rintro ((u | u) | u)
    · exact .inl (.inl u)
    · exact .inr u
    · exact .inl (.inr u)
theorem stay_add {d : Addr} {ob : HO} (hd : H d = none) (n : Nat) : Stay (UU A o) (UU (addA A d) o) (rho o) (rho o) n n H (upd H d ob) where
  keep := fun a e u => by
    have hn : a ≠ d := fun z => e (by rw [z]; exact hd)
    exact ⟨upd_ne hn, fun z => (uu_add.mp z).elim u hn⟩
  rho := fun _ _ => rfl
  le := Nat.le_refl _
theorem RelH.add {d : Addr} {ob : HO} (R : RelH P A o h H) (hd : H d = none) : RelH P (addA A d) o h (upd H d ob) := by
  have ne : ∀ {a}, H a ≠ none → a ≠ d := fun e z => e (by rw [z]; exact hd)
  refine ⟨R.inj, fun l a e u => ?_, fun a u => ?_, fun l a e => ?_, fun r m e => ?_, R.far⟩
  · rcases u with u | u
    · exact R.apart l a e u
    · exact ne (R.ol l a e) u
  · rcases u with u | u
    · rw [upd_ne (ne (R.live a u))]
      exact R.live a u
    · subst u
      rw [upd_same]
      exact fun z => nomatch z
  · rw [upd_ne (ne (R.ol l a e))]
    exact R.ol l a e
  · exact ObR.stay (stay_add hd _) rfl (fun _ => rfl) (fun l a e _ => upd_ne (ne (R.ol l a e))) (R.ob r m e)
theorem Rel.add {d : Addr} {ob : HO} (R : Rel P A o env h σ H) (hd : H d = none) : Rel P (addA A d) o env h σ (upd H d ob) :=
  { R.toRelH.add hd with
    len := R.len
    sl := fun i s e => (R.sl i s e).stay (stay_add hd _) fun a ea => upd_ne fun z => R.ol _ a ea (by rw [z]; exact hd)
    slf := R.slf }
theorem stay_put {d : Addr} {ob : HO} (n : Nat) : Stay (UU (addA A d) o) (UU (addA A d) o) (rho o) (rho o) n n H (upd H d ob) where
  keep := fun a e u => ⟨upd_ne fun z => u (.inl (.inr z)), u⟩
  rho := fun _ _ => rfl
  le := Nat.le_refl _
theorem RelH.put {d : Addr} {ob : HO} (R : RelH P (addA A d) o h H) : RelH P (addA A d) o h (upd H d ob) := by
  have ne : ∀ {l a}, o l = some a → a ≠ d := fun e z => R.apart _ _ e (.inr z)
  refine ⟨R.inj, R.apart, fun a u => ?_, fun l a e => ?_, fun r m e => ?_, R.far⟩
  · by_cases z : a = d
    · subst z
      rw [upd_same]
      exact fun z => nomatch z
    · rw [upd_ne z]
      exact R.live a u
  · rw [upd_ne (ne e)]
    exact R.ol l a e
  · exact ObR.stay (stay_put _) rfl (fun _ => rfl) (fun l a e _ => upd_ne (ne e)) (R.ob r m e)
theorem stay_drop {d : Addr} (n : Nat) : Stay (UU (addA A d) o) (UU A o) (rho o) (rho o) n n H H where
  keep := fun a e u => ⟨rfl, fun z => u (uu_add.mpr (.inl z))⟩
  rho := fun _ _ => rfl
  le := Nat.le_refl _
theorem RelH.drop {d : Addr} (R : RelH P (addA A d) o h H) : RelH P A o h H := by
  refine ⟨R.inj, fun l a e u => R.apart l a e (.inl u), fun a u => R.live a (.inl u), R.ol, fun r m e => ?_, R.far⟩
  exact ObR.stay (stay_drop _) rfl (fun _ => rfl) (fun l a e _ => rfl) (R.ob r m e)
/-- a step with d in hand, from a heap without d -/
theorem Stp.addT {d : Addr} (R : RelH P A o h H) (hd : H d = none) (s : Stp A o h H o' h' H') (t : Stp (addA A d) o' h' H' o'' h'' H'') : Stp A o h H o'' h'' H'' where
  keep := fun a e u => by
    have hn : a ≠ d := fun z => e (by rw [z]; exact hd)
    obtain ⟨e1, u1⟩ := s.keep a e u
    obtain ⟨e2, u2⟩ := t.keep a (by rw [e1]; exact e) fun z => (uu_add.mp z).elim u1 hn
    exact ⟨e2.trans e1, fun z => u2 (uu_add.mpr (.inl z))⟩
  sl := fun i => (t.sl i).trans (s.sl i)
  slk := fun i a e => (t.slk i a ((s.sl i).trans e)).trans (s.slk i a e)
  ak := fun a e => (t.ak a (.inl e)).trans (s.ak a e)
  ob := fun r hr => (t.ob r (Nat.lt_of_lt_of_le hr s.len)).trans (s.ob r hr)
  len := Nat.le_trans s.len t.len
theorem Stp.putT {d : Addr} {ob : HO} (R : RelH P A o h H) (hd : H d = none) (s : Stp A o h H o' h' H') : Stp A o h H o' h' (upd H' d ob) := by
  have ne : ∀ {a}, H a ≠ none → a ≠ d := fun e z => e (by rw [z]; exact hd)
  exact ⟨fun a e u => ⟨(upd_ne (ne e)).trans (s.keep a e u).1, (s.keep a e u).2⟩, s.sl, fun i a e => (upd_ne (ne (R.ol _ a e))).trans (s.slk i a e), fun a u => (upd_ne (ne (R.live a u))).trans (s.ak a u), s.ob, s.len⟩

/-! ### readings through a reference -/
theorem ref_ob (R : RelH P A o h H) {r : Nat} {m : MObj} {v : V} (e : h[r]? = some m) (x : Rp P (UU A o) (rho o) h.length H (.ref r) v) : ∃ a, v = .ref a ∧ o (.ob r) = some a ∧ ObR P A o h.length H r m := by
  obtain ⟨a, e1, x2⟩ := R.ob r m e
  unfold Rp at x
  refine ⟨a, ?_, e1, R.ob r m e⟩
  rw [x.2]
  unfold rho
  rw [e1]
  rfl
theorem view_ok (R : RelH P A o h H) {b : Bool} {d : D} {v : V} (x : Rp P (UU A o) (rho o) h.length H d v) : RpB P b (UU A o) (rho o) h.length H (view h b d) v := by
  unfold view
  split
  · rename_i r
    split
    · rename_i xs e
      obtain ⟨a, rfl, e1, e2, e3, ⟨vs, h1, h2⟩, _⟩ := ref_ob R e x
      rw [e1] at e3
      cases e3
      unfold RpB
      simp only [if_true]
      exact ⟨a, vs, rfl, h1, h2⟩
    · rename_i xs e
      obtain ⟨a, rfl, e1, e2, e3, ⟨vs, h1, h2⟩, _⟩ := ref_ob R e x
      rw [e1] at e3
      cases e3
      unfold RpB
      simp only [if_true]
      exact ⟨a, vs, rfl, h1, h2⟩
    · exact RpB.of x
  · exact RpB.of x
theorem slot_ok (R : RelH P A o h H) {b : Bool} {s : Sl} {d : D} {oa : Option Addr} {v : Option V} (e : s.get b h = some d) (x : SlR P A o h.length H oa s v) : ∃ u, v = some u ∧ RpB P b (UU A o) (rho o) h.length H d u := by
  cases s with
  | un => cases e
  | val d =>
    obtain ⟨_, u, rfl, r⟩ := x
    cases e
    exact ⟨u, rfl, view_ok R r⟩
  | ol xs =>
    obtain ⟨a, vs, rfl, _, h1, h2⟩ := x
    cases b with
    | false => cases e
    | true =>
      cases e
      exact ⟨_, rfl, by unfold RpB; simp only [if_true]; exact ⟨a, vs, rfl, h1, h2⟩⟩
  | od xs =>
    obtain ⟨a, vs, rfl, _, h1, h2⟩ := x
    cases b with
    | false => cases e
    | true =>
      cases e
      exact ⟨_, rfl, by unfold RpB; simp only [if_true]; exact ⟨a, vs, rfl, h1, h2⟩⟩
theorem Rfs.at {U : Addr → Prop} {ρ : Nat → Addr} {n : Nat} : ∀ {fs : List (Option D)} {ns : List Str} {gs : List (Str × V)} {j : Nat} {d : D}, Rfs P U ρ n H fs ns gs → fs[j]? = some (some d) → ∃ v, gs.lookup (ns.getD j "") = some v ∧ Rp P U ρ n H d v
  | [], _, _, j, _, _, e => by simp at e
  | none :: r, ns, gs, 0, _, x, e => by simp at e
  | some d :: r, ns, gs, 0, _, x, e => by
    unfold Rfs at x
    simp at e
    subst e
    obtain ⟨v, h1, h2⟩ := x.1
    refine ⟨v, ?_, h2⟩
    cases ns <;> simpa using h1
  | none :: r, ns, gs, j + 1, _, x, e => by
    unfold Rfs at x
    obtain ⟨v, h1, h2⟩ := Rfs.at (j := j) x.2 (by simpa using e)
    refine ⟨v, ?_, h2⟩
    cases ns <;> simpa using h1
  | some d :: r, ns, gs, j + 1, _, x, e => by
    unfold Rfs at x
    obtain ⟨v, h1, h2⟩ := Rfs.at (j := j) x.2 (by simpa using e)
    refine ⟨v, ?_, h2⟩
    cases ns <;> simpa using h1
theorem fld_ok (R : RelH P A o h H) {b : Bool} {x d : D} {c j : Nat} {v : V} (e : fldD x c j b h = some d) (r : Rp P (UU A o) (rho o) h.length H x v) :
    ∃ a dx gs u, v = .ref a ∧ H a = some (.ins (P.ca c) dx gs) ∧ j < (P.nm c).length ∧ gs.lookup ((P.nm c).getD j "") = some u ∧ RpB P b (UU A o) (rho o) h.length H d u := by
  unfold fldD at e
  split at e
  · rename_i c' fs
    split at e
    · rename_i hc
      subst hc
      split at e
      · rename_i d0 ej
        cases e
        unfold Rp at r
        obtain ⟨a, dx, gs, rfl, ⟨h1, _⟩, _, h3, h4⟩ := r
        obtain ⟨u, h5, h6⟩ := h4.at ej
        refine ⟨a, dx, gs, u, rfl, h1, ?_, h5, view_ok R h6⟩
        rw [← h3]
        exact (List.getElem?_eq_some_iff.mp ej).1
      · cases e
    · cases e
  · rename_i r0
    split at e
    · rename_i c' fs er
      split at e
      · rename_i hc
        subst hc
        split at e
        · rename_i s ej
          obtain ⟨a, rfl, e1, a', e2, x⟩ := ref_ob R er r
          rw [e1] at e2
          cases e2
          obtain ⟨dx, gs, h1, h2, h3, h4, h5, h6⟩ := x
          obtain ⟨u, q1, q2⟩ := slot_ok R e (h5 j s ej).1
          refine ⟨a, dx, gs, u, rfl, h1, ?_, q1, q2⟩
          rw [← h3]
          exact (List.getElem?_eq_some_iff.mp ej).1
        · cases e
      · cases e
    · cases e
  · cases e
theorem cls_ok (R : RelH P A o h H) {x : D} {c : Nat} {v : V} (e : clsD x h = some c) (r : Rp P (UU A o) (rho o) h.length H x v) :
    ∃ a dx gs, v = .ref a ∧ H a = some (.ins (P.ca c) dx gs) ∧ ∀ x, x ∉ P.nm c → gs.lookup x = none := by
  unfold clsD at e
  split at e
  · cases e
    unfold Rp at r
    obtain ⟨a, dx, gs, rfl, ⟨h1, _⟩, h2, _⟩ := r
    exact ⟨a, dx, gs, rfl, h1, h2⟩
  · split at e
    · rename_i er
      cases e
      obtain ⟨a, rfl, e1, a', e2, x⟩ := ref_ob R er r
      rw [e1] at e2
      cases e2
      obtain ⟨dx, gs, h1, h2, _⟩ := x
      exact ⟨a, dx, gs, rfl, h1, h2⟩
    · cases e
  · cases e
end
end MP

set_option Elab.async false
set_option linter.all false
set_option maxRecDepth 100000
set_option maxHeartbeats 4000000
namespace MP
open PySem PySem.Spec PyProof.Rows L2
/-- the machine fits the model's data -/
structure SmOk (P : Pm) (Γ : Tab) (M : Mo) (S : Sm) (pf : Nat → Bool) : Prop where
  K : M.K = P.K
  ca : P.ca = M.clsA
  nm : P.nm = fun c => (Γ.cl c).fields
  con : ∀ k U ρ n H, Rp P U ρ n H (S.con k) (M.con k)
  dv : ∀ g m U ρ n H, Rps P U ρ n H (S.dv g m) (M.dv g m)
  cls : ∀ g, S.cls g = (Γ.fn g).cls
  nf : ∀ c, S.nf c = (Γ.cl c).fields.length
  init : ∀ c, S.init c = (Γ.cl c).init
  fld : ∀ c j, j < (Γ.cl c).fields.length → Cls M.K (M.clsA c) ∧ NoAttr M.K (M.clsA c) ((Γ.cl c).fields.getD j "")
  few : ∀ c, (Γ.cl c).fields.length < 1000
  nd : ∀ c, (Γ.cl c).fields.Nodup
  mnm : ∀ g c, (Γ.fn g).cls = some c → (Γ.fn g).name ∉ (Γ.cl c).fields
  call : ∀ g A o h H ds vs Q E, noSl o → RelH P A o h H → Rps P (UU A o) (rho o) h.length H ds vs → PostC P A o h H (pf g) (S.call g ds h) Q E → M.cal g vs H Q E
section
variable {P : Pm} {Γ : Tab} {M : Mo} {S : Sm} {pf : Nat → Bool} {A A' : Addr → Prop} {o o' o'' : Loc → Option Addr} {h h' h'' : MH} {H H' H'' : Hp} {env : MEnv} {σ : L2.St} {p : Addr}
theorem ExR.of {n : Nat} {c : Nat} {q : Option D} {cls : Value} {dd : Option Addr} (x : ExR P A o n H c q cls dd) (e : UU A' o' = UU A o) (er : rho o' = rho o) : ExR P A' o' n H c q cls dd := by
  unfold ExR at *
  rw [e, er]
  exact x
theorem call_core (SO : SmOk P Γ M S pf) {g : Nat} {ds : List D} {vs : List V} {Q : VK} {W : WX} (R : Rel P A o env h σ H) (r : Rps P (UU A o) (rho o) h.length H ds vs)
    (c : match S.call g ds h with
      | .ok d h' => ∀ o' H' v, Rel P A o' env h' σ H' → Stp A o h H o' h' H' → (pf g = true → Pure o h H o' h' H') → Rp P (UU A o') (rho o') h'.length H' d v → Q v H'
      | .exc c p _ h' => ∀ o' H' cls dd, Rel P A o' env h' σ H' → Stp A o h H o' h' H' → ExR P A o' h'.length H' c p cls dd → W cls dd σ H'
      | .bad => False) : M.cal g vs H Q (fun cls d H => W cls d σ H) := by
  have T : Nat → Bool := fun _ => true
  refine SO.call g (hideA (fun _ => true) A o) (hideO (fun _ => true) o) h H ds vs Q _ (fun i => rfl) (R.toRelH.hide _) (by rw [uu_hide, rho_hide]; exact r) ?_
  unfold PostC
  cases e : S.call g ds h with
  | ok d h' =>
    rw [e] at c
    intro o' v H' ns R' st pu rv
    have rb : rho (backO o o') = rho o' := rfl
    refine c (backO o o') H' v (R.step (st.hide _ R') (R.toRelH.back _ st R')) (st.hide _ R') (fun q => ?_) (by rw [uu_back _ st, rb]; exact rv)
    obtain ⟨e1, e2, e3⟩ := pu q
    refine ⟨?_, e2, e3⟩
    subst e1
    funext l
    cases l <;> rfl
  | exc c2 p2 e2 h' =>
    rw [e] at c
    intro o' H' cls dd ns R' st ex
    exact c (backO o o') H' cls dd (R.step (st.hide _ R') (R.toRelH.back _ st R')) (st.hide _ R') (ex.of (uu_back _ st) rfl)
  | bad =>
    rw [e] at c
    exact c

/-! ### a new instance -/
def setO (o : Loc → Option Addr) (l : Loc) (a : Option Addr) : Loc → Option Addr := fun l' => if l' = l then a else o l'
theorem setO_same {l : Loc} {a : Option Addr} : setO o l a l = a := by unfold setO; rw [if_pos rfl]
theorem setO_ne {l l' : Loc} {a : Option Addr} (e : l' ≠ l) : setO o l a l' = o l' := by unfold setO; rw [if_neg e]
theorem uu_set {l : Loc} {a b : Addr} (e : o l = none) : UU A (setO o l (some a)) b ↔ UU A o b ∨ b = a := by
  constructor
  · rintro (u | ⟨l', q⟩)
    · exact .inl (.inl u)
    · by_cases z : l' = l
      · subst z
        rw [setO_same] at q
        cases q
        exact .inr rfl
      · rw [setO_ne z] at q
        exact .inl (.inr ⟨_, q⟩)
  · rintro ((u | ⟨l', q⟩) | u)
    · exact .inl u
    · refine .inr ⟨l', ?_⟩
      rw [setO_ne (fun z => by rw [z, e] at q; cases q)]
      exact q
    · subst u
      exact .inr ⟨l, setO_same⟩
def emptyIns (P : Pm) (c : Nat) : MObj := .ins c (List.replicate (P.nm c).length .un)
theorem new_rel (R : Rel P A o env h σ H) {x dx c : Nat} (hx : H x = none) (hd : H dx = none) (hne : dx ≠ x) :
    Rel P A (setO o (.ob h.length) (some x)) env (h ++ [emptyIns P c]) σ (upd (upd H dx (.own x)) x (.ins (P.ca c) dx [])) ∧
    Stp A o h H (setO o (.ob h.length) (some x)) (h ++ [emptyIns P c]) (upd (upd H dx (.own x)) x (.ins (P.ca c) dx [])) := by
  have ne : ∀ {a}, H a ≠ none → a ≠ x ∧ a ≠ dx := fun e => ⟨fun z => e (by rw [z]; exact hx), fun z => e (by rw [z]; exact hd)⟩
  have eH : ∀ {a}, H a ≠ none → (upd (upd H dx (.own x)) x (.ins (P.ca c) dx [])) a = H a := fun e => by rw [upd_ne (ne e).1, upd_ne (ne e).2]
  have o0 : o (.ob h.length) = none := (R.far _ (Nat.le_refl _)).1
  have st : Stp A o h H (setO o (.ob h.length) (some x)) (h ++ [emptyIns P c]) (upd (upd H dx (.own x)) x (.ins (P.ca c) dx [])) := by
    refine ⟨fun a e u => ⟨eH e, fun z => ((uu_set o0).mp z).elim u (ne e).1⟩, fun i => setO_ne (fun z => Loc.noConfusion z), fun i a e => eH (R.ol _ a e), fun a u => eH (R.live a u), fun r hr => setO_ne (fun z => ?_), by simp⟩
    cases z
    exact Nat.lt_irrefl _ hr
  have stay := st.stay
  have RH : RelH P A (setO o (.ob h.length) (some x)) (h ++ [emptyIns P c]) (upd (upd H dx (.own x)) x (.ins (P.ca c) dx [])) := by
    refine ⟨fun l l' a e e' => ?_, fun l a e u => ?_, fun a u => by rw [eH (R.live a u)]; exact R.live a u, fun l a e => ?_, fun r m e => ?_, fun r hr => ?_⟩
    · by_cases z : l = .ob h.length
      · by_cases z' : l' = .ob h.length
        · rw [z, z']
        · rw [z, setO_same] at e
          cases e
          rw [setO_ne z'] at e'
          exact ((ne (R.ol _ _ e')).1 rfl).elim
      · rw [setO_ne z] at e
        by_cases z' : l' = .ob h.length
        · rw [z', setO_same] at e'
          cases e'
          exact ((ne (R.ol _ _ e)).1 rfl).elim
        · rw [setO_ne z'] at e'
          exact R.inj _ _ _ e e'
    · by_cases z : l = .ob h.length
      · rw [z, setO_same] at e
        cases e
        exact (ne (R.live _ u)).1 rfl
      · rw [setO_ne z] at e
        exact R.apart l a e u
    · by_cases z : l = .ob h.length
      · rw [z, setO_same] at e
        cases e
        rw [upd_same]
        exact fun z => nomatch z
      · rw [setO_ne z] at e
        rw [eH (R.ol l a e)]
        exact R.ol l a e
    · by_cases hr : r < h.length
      · rw [List.getElem?_append_left hr] at e
        refine ObR.stay stay ?_ (fun j => setO_ne (fun z => Loc.noConfusion z)) (fun l a e _ => eH (R.ol l a e)) (R.ob r m e)
        exact setO_ne (fun z => by cases z; exact Nat.lt_irrefl _ hr)
      · have hr2 : r = h.length := by
          have := (List.getElem?_eq_some_iff.mp e).1
          simp at this
          omega
        subst hr2
        simp at e
        subst e
        refine ⟨x, setO_same, dx, [], upd_same, fun _ _ => rfl, by simp, by simp, fun j s ej => ?_, fun j hj => ?_⟩
        · have hs : s = .un := by
            have := List.mem_of_getElem? ej
            exact (List.mem_replicate.mp this).2
          subst hs
          refine ⟨?_, fun _ => rfl⟩
          show setO o _ _ (.fl h.length j) = none
          rw [setO_ne (fun z => Loc.noConfusion z)]
          exact (R.far _ (Nat.le_refl _)).2 j
        · rw [setO_ne (fun z => Loc.noConfusion z)]
          exact (R.far _ (Nat.le_refl _)).2 j
    · simp at hr
      rw [setO_ne (fun z => by cases z; omega)]
      refine ⟨(R.far r (by omega)).1, fun j => ?_⟩
      rw [setO_ne (fun z => Loc.noConfusion z)]
      exact (R.far r (by omega)).2 j
  exact ⟨R.step st RH, st⟩

/-! ### a new instance that becomes a value -/
section
variable {U : Addr → Prop} {ρ : Nat → Addr} {n : Nat}
mutual
theorem Rp.is_low : ∀ {d : D} {v : V}, Rp P U ρ n H d v → d.low n = true
  | .non, _, _ => rfl
  | .bl _, _, _ => rfl
  | .int _, _, _ => rfl
  | .str _, _, _ => rfl
  | .ty _, _, _ => rfl
  | .tup ds, _, h => by
    unfold Rp at h
    obtain ⟨_, _, _, _, h⟩ := h
    exact Rps.is_low h
  | .lst ds, _, h => by
    unfold Rp at h
    obtain ⟨_, _, _, _, h⟩ := h
    exact Rps.is_low h
  | .rol ds, _, h => by
    unfold Rp at h
    obtain ⟨_, _, _, _, h⟩ := h
    exact Rps.is_low h
  | .dic ds, _, h => by
    unfold Rp at h
    obtain ⟨_, _, _, _, h⟩ := h
    exact Rkv.is_low h
  | .ins c fs, _, h => by
    unfold Rp at h
    obtain ⟨_, _, _, _, _, _, _, h⟩ := h
    exact Rfs.is_low h
  | .ref r, _, h => by
    unfold Rp at h
    exact decide_eq_true h.1
theorem Rps.is_low : ∀ {d : List D} {v : List V}, Rps P U ρ n H d v → lows n d = true
  | [], _, _ => rfl
  | d :: ds, _, h => by
    unfold Rps at h
    obtain ⟨_, _, _, h1, h2⟩ := h
    unfold lows
    rw [Rp.is_low h1, Rps.is_low h2]
    rfl
theorem Rkv.is_low : ∀ {d : List (KK × D)} {v : List (KK × V)}, Rkv P U ρ n H d v → lowk n d = true
  | [], _, _ => rfl
  | (_, d) :: ds, _, h => by
    unfold Rkv at h
    obtain ⟨_, _, _, h1, h2⟩ := h
    unfold lowk
    rw [Rp.is_low h1, Rkv.is_low h2]
    rfl
theorem Rfs.is_low : ∀ {d : List (Option D)} {ns : List Str} {v : List (Str × V)}, Rfs P U ρ n H d ns v → lowf n d = true
  | [], _, _, _ => rfl
  | none :: ds, _, _, h => by
    unfold Rfs at h
    unfold lowf
    exact Rfs.is_low h.2
  | some d :: ds, _, _, h => by
    unfold Rfs at h
    obtain ⟨⟨_, _, h1⟩, h2⟩ := h
    unfold lowf
    rw [Rp.is_low h1, Rfs.is_low h2]
    rfl
end
variable {U' : Addr → Prop} {m : Nat}
mutual
/-- fewer objects, fewer addresses of one's own -/
theorem Rp.less (u : ∀ a, U' a → U a) : ∀ {d : D} {v : V}, d.low m = true → Rp P U ρ n H d v → Rp P U' ρ m H d v
  | .non, _, _, h => by unfold Rp at *; exact h
  | .bl b, _, _, h => by unfold Rp at *; exact h
  | .int i, _, _, h => by unfold Rp at *; exact h
  | .str x, _, _, h => by unfold Rp at *; exact h
  | .ty t, _, _, h => by unfold Rp at *; exact h
  | .tup ds, _, l, h => by
    unfold Rp at *
    obtain ⟨a, vs, e, h1, h2⟩ := h
    exact ⟨a, vs, e, h1.imp (fun z => ⟨z.1, fun q => z.2 (u _ q)⟩) id, Rps.less u l h2⟩
  | .lst ds, _, l, h => by
    unfold Rp at *
    obtain ⟨a, vs, e, h1, h2⟩ := h
    exact ⟨a, vs, e, ⟨h1.1, fun q => h1.2 (u _ q)⟩, Rps.less u l h2⟩
  | .rol ds, _, l, h => by
    unfold Rp at *
    obtain ⟨a, vs, e, h1, h2⟩ := h
    exact ⟨a, vs, e, h1.imp (fun ⟨ob, z⟩ => ⟨ob, z.1, fun q => z.2 (u _ q)⟩) id, Rps.less u l h2⟩
  | .dic kvs, _, l, h => by
    unfold Rp at *
    obtain ⟨a, vs, e, h1, h2⟩ := h
    exact ⟨a, vs, e, ⟨h1.1, fun q => h1.2 (u _ q)⟩, Rkv.less u l h2⟩
  | .ins c fs, _, l, h => by
    unfold Rp at *
    obtain ⟨a, dx, gs, e, h1, h2, h3, h4⟩ := h
    exact ⟨a, dx, gs, e, ⟨h1.1, fun q => h1.2 (u _ q)⟩, h2, h3, Rfs.less u l h4⟩
  | .ref r, _, l, h => by
    unfold Rp at *
    exact ⟨of_decide_eq_true l, h.2⟩
theorem Rps.less (u : ∀ a, U' a → U a) : ∀ {ds : List D} {vs : List V}, lows m ds = true → Rps P U ρ n H ds vs → Rps P U' ρ m H ds vs
  | [], _, _, h => by unfold Rps at *; exact h
  | d :: ds, _, l, h => by
    unfold Rps at *
    unfold lows at l
    simp only [Bool.and_eq_true] at l
    obtain ⟨v, ws, e, h1, h2⟩ := h
    exact ⟨v, ws, e, Rp.less u l.1 h1, Rps.less u l.2 h2⟩
theorem Rkv.less (u : ∀ a, U' a → U a) : ∀ {ds : List (KK × D)} {vs : List (KK × V)}, lowk m ds = true → Rkv P U ρ n H ds vs → Rkv P U' ρ m H ds vs
  | [], _, _, h => by unfold Rkv at *; exact h
  | (k, d) :: ds, _, l, h => by
    unfold Rkv at *
    unfold lowk at l
    simp only [Bool.and_eq_true] at l
    obtain ⟨v, ws, e, h1, h2⟩ := h
    exact ⟨v, ws, e, Rp.less u l.1 h1, Rkv.less u l.2 h2⟩
theorem Rfs.less (u : ∀ a, U' a → U a) : ∀ {fs : List (Option D)} {ns : List Str} {gs : List (Str × V)}, lowf m fs = true → Rfs P U ρ n H fs ns gs → Rfs P U' ρ m H fs ns gs
  | [], _, _, _, h => by unfold Rfs at *; trivial
  | none :: ds, _, _, l, h => by
    unfold Rfs at *
    unfold lowf at l
    exact ⟨h.1, Rfs.less u l h.2⟩
  | some d :: ds, _, _, l, h => by
    unfold Rfs at *
    unfold lowf at l
    simp only [Bool.and_eq_true] at l
    obtain ⟨⟨v, e, h1⟩, h2⟩ := h
    exact ⟨⟨v, e, Rp.less u l.1 h1⟩, Rfs.less u l.2 h2⟩
end
end
theorem SlR.less {n m : Nat} {oa oa' : Option Addr} {s : Sl} {v : Option V} {o0 : Loc → Option Addr} {A0 : Addr → Prop} {H0 : Hp} {oa0 : Option Addr} {v0 : Option V} (u : ∀ a, UU A' o' a → UU A o a) (er : ∀ r, r < m → rho o' r = rho o r) (eo : oa' = oa) (x : SlR P A o n H oa s v)
    (low : SlR P A0 o0 m H0 oa0 s v0) : SlR P A' o' m H oa' s v := by
  subst eo
  have st : Stay (UU A' o') (UU A' o') (rho o) (rho o') m m H H := ⟨fun _ _ q => ⟨rfl, q⟩, er, Nat.le_refl _⟩
  cases s with
  | un => exact x
  | val d =>
    obtain ⟨e, y, e2, r⟩ := x
    obtain ⟨_, y', e2', r'⟩ := low
    exact ⟨e, y, e2, (r.less u r'.is_low).stay st⟩
  | ol xs =>
    obtain ⟨a, vs, e1, e2, e3, r⟩ := x
    obtain ⟨a', vs', e1', e2', e3', r'⟩ := low
    exact ⟨a, vs, e1, e2, e3, (r.less u r'.is_low).stay st⟩
  | od kvs =>
    obtain ⟨a, ws, e1, e2, e3, r⟩ := x
    obtain ⟨a', ws', e1', e2', e3', r'⟩ := low
    exact ⟨a, ws, e1, e2, e3, (r.less u r'.is_low).stay st⟩
def dropN (N : Nat) (o : Loc → Option Addr) : Loc → Option Addr
  | .sl i => o (.sl i)
  | .ob r => if r = N then none else o (.ob r)
  | .fl r j => if r = N then none else o (.fl r j)
theorem dropN_le {N : Nat} {l : Loc} {a : Addr} (e : dropN N o l = some a) : o l = some a ∧ l ≠ .ob N ∧ ∀ j, l ≠ .fl N j := by
  cases l with
  | sl i => exact ⟨e, fun z => Loc.noConfusion z, fun _ z => Loc.noConfusion z⟩
  | ob r =>
    by_cases z : r = N
    · simp [dropN, z] at e
    · exact ⟨by simpa [dropN, z] using e, fun q => by cases q; exact z rfl, fun _ q => Loc.noConfusion q⟩
  | fl r j =>
    by_cases z : r = N
    · simp [dropN, z] at e
    · exact ⟨by simpa [dropN, z] using e, fun q => Loc.noConfusion q, fun _ q => by cases q; exact z rfl⟩
theorem dropN_ob {N r : Nat} (z : r ≠ N) : dropN N o (.ob r) = o (.ob r) := by simp [dropN, z]
theorem dropN_fl {N r j : Nat} (z : r ≠ N) : dropN N o (.fl r j) = o (.fl r j) := by simp [dropN, z]
theorem fzs_len : ∀ fs : List Sl, (fzs fs).length = fs.length
  | [] => rfl
  | .un :: r => by simp [fzs, fzs_len r]
  | .val _ :: r => by simp [fzs, fzs_len r]
  | .ol _ :: r => by simp [fzs, fzs_len r]
  | .od _ :: r => by simp [fzs, fzs_len r]
theorem fzs_rel {U U' : Addr → Prop} {ρ ρ' : Nat → Addr} {n m : Nat} {gs : List (Str × V)} : ∀ (fs : List Sl) (ns : List Str) (oa : Nat → Option Addr), lowf m (fzs fs) = true → (∀ a, U' a → U a) → (∀ r, r < m → ρ' r = ρ r) → (∀ j a, oa j = some a → ¬ U' a) →
    (∀ (j : Nat) (s : Sl), fs[j]? = some s → (match s with
      | .un => gs.lookup (ns.getD j "") = none
      | .val d => ∃ x, gs.lookup (ns.getD j "") = some x ∧ Rp P U ρ n H d x
      | .ol xs => ∃ a vs, gs.lookup (ns.getD j "") = some (.ref a) ∧ oa j = some a ∧ H a = some (.lst vs) ∧ Rps P U ρ n H xs vs
      | .od kvs => ∃ a ws, gs.lookup (ns.getD j "") = some (.ref a) ∧ oa j = some a ∧ HDic H a ws ∧ Rkv P U ρ n H kvs ws)) → Rfs P U' ρ' m H (fzs fs) ns gs
  | [], _, _, _, _, _, _, _ => by unfold fzs Rfs; trivial
  | s :: r, ns, oa, l, u, er, no, x => by
    have st : Stay U' U' ρ ρ' m m H H := ⟨fun _ _ q => ⟨rfl, q⟩, er, Nat.le_refl _⟩
    have x0 := x 0 s rfl
    have hd : ns.getD 0 "" = ns.headD "" := by cases ns <;> rfl
    rw [hd] at x0
    have tl : ∀ (h2 : lowf m (fzs r) = true), Rfs P U' ρ' m H (fzs r) ns.tail gs := fun h2 => fzs_rel r ns.tail (fun j => oa (j + 1)) h2 u er (fun j => no (j + 1)) fun j s ej => by
      have q := x (j + 1) s (by simpa using ej)
      have e : ns.getD (j + 1) "" = ns.tail.getD j "" := by cases ns <;> simp
      rw [e] at q
      exact q
    cases s with
    | un =>
      unfold fzs at l ⊢
      unfold lowf at l
      unfold Rfs
      exact ⟨x0, tl l⟩
    | val d =>
      unfold fzs at l ⊢
      unfold lowf at l
      simp only [Bool.and_eq_true] at l
      unfold Rfs
      obtain ⟨v, e, q⟩ := x0
      exact ⟨⟨v, e, (q.less u l.1).stay st⟩, tl l.2⟩
    | ol d =>
      unfold fzs at l ⊢
      unfold lowf at l
      simp only [Bool.and_eq_true] at l
      unfold Rfs
      obtain ⟨a, vs, e, ea, e2, q⟩ := x0
      refine ⟨⟨_, e, ?_⟩, tl l.2⟩
      have l1 : lows m d = true := l.1
      unfold Rp
      exact ⟨a, vs, rfl, ⟨e2, no 0 a ea⟩, (q.less u l1).stay st⟩
    | od d =>
      unfold fzs at l ⊢
      unfold lowf at l
      simp only [Bool.and_eq_true] at l
      unfold Rfs
      obtain ⟨a, vs, e, ea, e2, q⟩ := x0
      refine ⟨⟨_, e, ?_⟩, tl l.2⟩
      have l1 : lowk m d = true := l.1
      unfold Rp
      exact ⟨a, vs, rfl, ⟨e2, no 0 a ea⟩, (q.less u l1).stay st⟩
theorem freeze_ok {c : Nat} {fs : List Sl} {x : Addr} (R : Rel P A o env h σ H) (R' : Rel P A o' env (h ++ [.ins c fs]) σ H') (st : Stp A o h H o' (h ++ [.ins c fs]) H') (ex : o' (.ob h.length) = some x) (low : lowf h.length (fzs fs) = true) :
    Rel P A (dropN h.length o') env h σ H' ∧ Stp A o h H (dropN h.length o') h H' ∧ Rp P (UU A (dropN h.length o')) (rho (dropN h.length o')) h.length H' (.ins c (fzs fs)) (.ref x) := by
  have ul : ∀ a, UU A (dropN h.length o') a → UU A o' a := by
    rintro a (u | ⟨l, e⟩)
    · exact .inl u
    · exact .inr ⟨l, (dropN_le e).1⟩
  have er : ∀ r, r < h.length → rho (dropN h.length o') r = rho o' r := fun r hr => by unfold rho; rw [dropN_ob (Nat.ne_of_lt hr)]
  have no : ∀ l a, o' l = some a → (l = .ob h.length ∨ ∃ j, l = .fl h.length j) → ¬ UU A (dropN h.length o') a := by
    rintro l a e hl (u | ⟨l', e'⟩)
    · exact R'.apart l a e u
    · obtain ⟨q1, q2, q3⟩ := dropN_le e'
      have := R'.inj _ _ _ e q1
      subst this
      rcases hl with hl | ⟨j, hl⟩
      · exact q2 hl
      · exact q3 j hl
  have s2 : Stp A o h H (dropN h.length o') h H' :=
    ⟨fun a e u => ⟨(st.keep a e u).1, fun z => (st.keep a e u).2 (ul a z)⟩, st.sl, st.slk, st.ak, fun r hr => (dropN_ob (Nat.ne_of_lt hr)).trans (st.ob r hr), Nat.le_refl _⟩
  have RH : RelH P A (dropN h.length o') h H' := by
    refine ⟨fun l l' a e e' => R'.inj _ _ _ (dropN_le e).1 (dropN_le e').1, fun l a e => R'.apart l a (dropN_le e).1, R'.live, fun l a e => R'.ol l a (dropN_le e).1, fun r m e => ?_, fun r hr => ?_⟩
    · have hr : r < h.length := (List.getElem?_eq_some_iff.mp e).1
      obtain ⟨a, e1, y⟩ := R'.ob r m (by rw [List.getElem?_append_left hr]; exact e)
      obtain ⟨a0, e0, y0⟩ := R.ob r m e
      refine ⟨a, (dropN_ob (Nat.ne_of_lt hr)).trans e1, ?_⟩
      have stl : Stay (UU A (dropN h.length o')) (UU A (dropN h.length o')) (rho o') (rho (dropN h.length o')) h.length h.length H' H' := ⟨fun _ _ q => ⟨rfl, q⟩, er, Nat.le_refl _⟩
      cases m with
      | ins c fs =>
        obtain ⟨dx, gs, h1, h2, h3, h4, h5, h6⟩ := y
        obtain ⟨_, gs0, _, _, _, _, h50, _⟩ := y0
        exact ⟨dx, gs, h1, h2, h3, h4, fun j s ej => ⟨SlR.less ul er (dropN_fl (Nat.ne_of_lt hr)) (h5 j s ej).1 (h50 j s ej).1, (h5 j s ej).2⟩, fun j hj => (dropN_fl (Nat.ne_of_lt hr)).trans (h6 j hj)⟩
      | lst xs =>
        obtain ⟨⟨vs, h1, h2⟩, h3⟩ := y
        obtain ⟨⟨_, _, h20⟩, _⟩ := y0
        exact ⟨⟨vs, h1, (h2.less ul h20.is_low).stay stl⟩, fun j => (dropN_fl (Nat.ne_of_lt hr)).trans (h3 j)⟩
      | dic xs =>
        obtain ⟨⟨vs, h1, h2⟩, h3⟩ := y
        obtain ⟨⟨_, _, h20⟩, _⟩ := y0
        exact ⟨⟨vs, h1, (h2.less ul h20.is_low).stay stl⟩, fun j => (dropN_fl (Nat.ne_of_lt hr)).trans (h3 j)⟩
    · by_cases z : r = h.length
      · subst z
        exact ⟨by simp [dropN], fun j => by simp [dropN]⟩
      · obtain ⟨f1, f2⟩ := R'.far r (by simp; omega)
        exact ⟨(dropN_ob z).trans f1, fun j => (dropN_fl z).trans (f2 j)⟩
  refine ⟨R.step s2 RH, s2, ?_⟩
  obtain ⟨a, e1, dx, gs, h1, h2, h3, h4, h5, h6⟩ := R'.ob h.length (.ins c fs) (by simp)
  rw [ex] at e1
  cases e1
  unfold Rp
  refine ⟨x, dx, gs, rfl, ⟨h1, no _ _ ex (.inl rfl)⟩, h2, by rw [fzs_len]; exact h3, ?_⟩
  refine fzs_rel (n := (h ++ [MObj.ins c fs]).length) fs _ (fun j => o' (.fl h.length j)) low ul er (fun j a e => no _ a e (.inr ⟨j, rfl⟩)) fun j s ej => ?_
  have q := h5 j s ej
  cases s with
  | un => exact q.2 rfl
  | val d => exact q.1.2
  | ol d => exact q.1
  | od d => exact q.1

/-! ### targets -/
mutual
def tgs : T → List Nat
  | .name i => [i]
  | .tup ts => tgss ts
def tgss : Ts → List Nat
  | .nil => []
  | .cons t r => tgs t ++ tgss r
end
def dropS (L : List Nat) (o : Loc → Option Addr) : Loc → Option Addr
  | .sl i => if i ∈ L then none else o (.sl i)
  | l => o l
theorem dropS_le {L : List Nat} {l : Loc} {a : Addr} (e : dropS L o l = some a) : o l = some a := by
  cases l with
  | sl i =>
    unfold dropS at e
    by_cases z : i ∈ L
    · simp [z] at e
    · simpa [z] using e
  | ob r => exact e
  | fl r j => exact e
theorem dropS_nil : dropS [] o = o := by
  funext l
  cases l <;> simp [dropS]
theorem dropS_app (L L' : List Nat) : dropS L' (dropS L o) = dropS (L ++ L') o := by
  funext l
  cases l with
  | sl i =>
    simp only [dropS, List.mem_append]
    by_cases z : i ∈ L <;> by_cases z' : i ∈ L' <;> simp [z, z']
  | ob r => rfl
  | fl r j => rfl
theorem stay_dropS (L : List Nat) (n : Nat) : Stay (UU A o) (UU A (dropS L o)) (rho o) (rho (dropS L o)) n n H H :=
  ⟨fun a e u => ⟨rfl, fun z => u (z.imp id fun ⟨l, q⟩ => ⟨l, dropS_le q⟩)⟩, fun _ _ => rfl, Nat.le_refl _⟩
theorem RelH.dropS (L : List Nat) (R : RelH P A o h H) : RelH P A (dropS L o) h H :=
  ⟨fun l l' a e e' => R.inj l l' a (dropS_le e) (dropS_le e'), fun l a e => R.apart l a (dropS_le e), R.live, fun l a e => R.ol l a (dropS_le e), fun r m e => ObR.stay (stay_dropS L _) rfl (fun _ => rfl) (fun _ _ _ _ => rfl) (R.ob r m e), R.far⟩
theorem Rel.put {i : Nat} {d : D} {v : V} (R : Rel P A o env h σ H) (hi : i < env.length) (r : Rp P (UU A o) (rho o) h.length H d v) : Rel P A (MP.dropS [i] o) (env.set i (.val d)) h (σ.set i (some v)) H :=
  { R.toRelH.dropS [i] with
    len := by simp [R.len]
    sl := fun j s e => by
      by_cases z : i = j
      · subst z
        have hs : s = .val d := by
          rw [List.getElem?_set_self hi] at e
          exact (Option.some.inj e).symm
        subst hs
        refine ⟨by simp [MP.dropS], v, ?_, r.stay (stay_dropS [i] _)⟩
        have hi' : i < σ.length := by rw [← R.len]; exact hi
        simp [List.getD_eq_getElem?_getD, List.getElem?_set_self hi']
      · rw [List.getElem?_set_ne z] at e
        have x := R.sl j s e
        have e1 : MP.dropS [i] o (.sl j) = o (.sl j) := if_neg (by simp; exact fun q => z q.symm)
        have e2 : (σ.set i (some v)).getD j none = σ.getD j none := by simp [List.getD_eq_getElem?_getD, List.getElem?_set_ne z]
        rw [e1, e2]
        exact x.stay (stay_dropS [i] _) fun _ _ => rfl
    slf := fun j hj => by
      have hj' : env.length ≤ j := by simpa using hj
      have x := R.slf j hj'
      show (if j ∈ [i] then none else o (.sl j)) = none
      rw [x]
      simp }
theorem asgL_len : ∀ (ts : Ts) {xs : List D} {env env' : MEnv}, asgL ts xs env = some env' → xs.length = ts.len
  | .nil, [], _, _, _ => rfl
  | .nil, _ :: _, _, _, e => by unfold asgL at e; cases e
  | .cons _ _, [], _, _, e => by unfold asgL at e; cases e
  | .cons t r, x :: xs, env, env', e => by
    unfold asgL at e
    obtain ⟨e1, _, e2⟩ := Option.bind_eq_some_iff.mp e
    show xs.length + 1 = r.len + 1
    rw [asgL_len r e2]
mutual
theorem sG (SO : SmOk P Γ M S pf) : ∀ (t : T) {d : D} {env env' : MEnv} {v : V} {σ : L2.St} {o : Loc → Option Addr} {Q : L2.St → Hp → Prop}, asg t d env = some env' → Rel P A o env h σ H → Rp P (UU A o) (rho o) h.length H d v →
    (∀ σ', Rel P A (dropS (tgs t) o) env' h σ' H → (∀ i, i ∉ tgs t → σ'[i]? = σ[i]?) → σ'.length = σ.length → Q σ' H) → wpG Γ M t v σ H Q
  | .name i, d, env, env', v, σ, o, Q, e, R, r, k => by
    unfold asg at e
    split at e
    · rename_i hi
      cases e
      refine k _ (R.put hi r) (fun j hj => ?_) (by simp)
      have : i ≠ j := fun z => hj (by simp [tgs, z])
      exact List.getElem?_set_ne this
    · cases e
  | .tup ts, d, env, env', v, σ, o, Q, e, R, r, k => by
    unfold asg at e
    split at e
    · rename_i xs
      obtain ⟨a, vs, rfl, h1, h2, h3⟩ := r.top.tup
      refine ⟨a, vs, rfl, by rw [SO.K]; exact h1, by rw [h3.len]; exact asgL_len ts e, ?_⟩
      exact sGs SO ts e R h3 k
    · cases e
theorem sGs (SO : SmOk P Γ M S pf) : ∀ (ts : Ts) {ds : List D} {env env' : MEnv} {vs : List V} {σ : L2.St} {o : Loc → Option Addr} {Q : L2.St → Hp → Prop}, asgL ts ds env = some env' → Rel P A o env h σ H → Rps P (UU A o) (rho o) h.length H ds vs →
    (∀ σ', Rel P A (dropS (tgss ts) o) env' h σ' H → (∀ i, i ∉ tgss ts → σ'[i]? = σ[i]?) → σ'.length = σ.length → Q σ' H) → wpGs Γ M ts vs σ H Q
  | .nil, [], env, env', vs, σ, o, Q, e, R, r, k => by
    unfold asgL at e
    cases e
    refine ⟨r.nil_inv, k σ ?_ (fun _ _ => rfl) rfl⟩
    show Rel P A (dropS [] o) env h σ H
    rw [dropS_nil]
    exact R
  | .nil, _ :: _, env, env', vs, σ, o, Q, e, R, r, k => by
    unfold asgL at e
    cases e
  | .cons t r, [], env, env', vs, σ, o, Q, e, R, rr, k => by
    unfold asgL at e
    cases e
  | .cons t r, d :: ds, env, env', vs, σ, o, Q, e, R, rr, k => by
    unfold asgL at e
    obtain ⟨e1, q1, q2⟩ := Option.bind_eq_some_iff.mp e
    obtain ⟨v, ws, rfl, r1, r2⟩ := rr.uncons
    refine ⟨v, ws, rfl, sG SO t q1 R r1 fun σ1 R1 k1 l1 => ?_⟩
    refine sGs SO r q2 R1 (r2.stay (stay_dropS _ _)) fun σ2 R2 k2 l2 => ?_
    refine k σ2 ?_ (fun i hi => ?_) (l2.trans l1)
    · rw [dropS_app] at R2
      exact R2
    · have hi' : i ∉ tgs t ∧ i ∉ tgss r := by
        simpa [tgss] using hi
      exact (k2 i hi'.2).trans (k1 i hi'.1)
end
end
end MP

set_option Elab.async false
set_option linter.all false
set_option maxRecDepth 100000
set_option maxHeartbeats 4000000
namespace MP
open PySem PySem.Spec PyProof.Rows L2
section
variable {P : Pm} {Γ : Tab} {M : Mo} {S : Sm} {pf : Nat → Bool} {A A' : Addr → Prop} {o o' o'' : Loc → Option Addr} {h h' h'' : MH} {H H' H'' : Hp} {env : MEnv} {σ : L2.St} {p : Addr} {W : WX} {α β : Type}
theorem Post.sub {q q1 q2 : Bool} {out : Out α} {f : α → MH → Out β} {G : β → (Loc → Option Addr) → MH → Hp → Prop} {G' : α → (Loc → Option Addr) → MH → Hp → Prop} (R : RelH P A o h H) (x : Post P W A o env h σ H q (out.bind f) G) (hq : q = true → q1 = true ∧ q2 = true)
    (k : ∀ d o1 h1 H1, out = .ok d h1 → Rel P A o1 env h1 σ H1 → Stp A o h H o1 h1 H1 → (q1 = true → Pure o h H o1 h1 H1) → Post P W A o1 env h1 σ H1 q2 (f d h1) G → G' d o1 h1 H1) : Post P W A o env h σ H q1 out G' :=
  Post.imp (Post.bind (q1 := q1) (q2 := q2) R x hq) id fun d o1 h1 H1 e R1 S1 P1 g => k d o1 h1 H1 e R1 S1 P1 g
theorem RpB.mono {b c : Bool} {U : Addr → Prop} {ρ : Nat → Addr} {n : Nat} {d : D} {v : V} (hb : b = true → c = true) (r : RpB P b U ρ n H d v) : RpB P c U ρ n H d v := by
  cases b with
  | false => exact RpB.of r.val
  | true => rw [hb rfl]; exact r
def GE (P : Pm) (A : Addr → Prop) (Q : VK) (b : Bool) : D → (Loc → Option Addr) → MH → Hp → Prop := fun d o' h' H' => ∀ v, RpB P b (UU A o') (rho o') h'.length H' d v → Q v H'
def GT (Q : Bool → Hp → Prop) : D → (Loc → Option Addr) → MH → Hp → Prop := fun d _ _ H' => ∃ c, d = .bl c ∧ Q c H'
def RpBs (P : Pm) (b : Bool) (U : Addr → Prop) (ρ : Nat → Addr) (n : Nat) (H : Hp) (ds : List D) (vs : List V) : Prop := if b = true then RpTs P U ρ n H ds vs else Rps P U ρ n H ds vs
def GS (P : Pm) (A : Addr → Prop) (m : Nat) (Q : List V → Hp → Prop) (b : Bool) : List D → (Loc → Option Addr) → MH → Hp → Prop := fun ds o' h' H' => ds.length = m → ∀ vs, RpBs P b (UU A o') (rho o') h'.length H' ds vs → Q vs H'
/-- what can be walked over -/
def Its (P : Pm) (b : Bool) (U : Addr → Prop) (ρ : Nat → Addr) (n : Nat) (H : Hp) (J : It) (ds : List D) : Prop := ∃ Gd Y, Walk J ds.length Gd Y ∧
  ∀ U2 ρ2 n2 H2, Stay U U2 ρ ρ2 n n2 H H2 → (b = true → Same H H2) → (∀ p, H2 p = none → ¬ U2 p) → Gd H2 ∧ ∀ i x H3, i < ds.length → Y i H2 x H3 → Same H2 H3 ∧ ∃ d, ds[i]? = some d ∧ Rp P U2 ρ2 n2 H3 d x
def GI (P : Pm) (A : Addr → Prop) (R : It → Hp → Prop) (b : Bool) : List D → (Loc → Option Addr) → MH → Hp → Prop := fun ds o' h' H' => ∀ J, Its P b (UU A o') (rho o') h'.length H' J ds → R J H'
variable (P Γ M S pf)
def SimE (e : E) : Prop := wf pf e = true → ∀ (W : WX) b A o env h σ H Q, Rel P A o env h σ H → Post P W A o env h σ H (pu pf e) (ev S e b env h) (GE P A Q (b && bor e)) → (wp Γ M e W).e σ H Q
def SimT (e : E) : Prop := wf pf e = true → ∀ (W : WX) A o env h σ H Q, Rel P A o env h σ H → Post P W A o env h σ H (pu pf e) (ev S e true env h) (GT Q) → (wp Γ M e W).t σ H Q
def SimEs (es : Es) : Prop := wfs pf es = true → ∀ (W : WX) b A o env h σ H Q, (b = true → okT pf es = true) → Rel P A o env h σ H → Post P W A o env h σ H (pus pf es) (evs S es b env h) (GS P A es.len Q b) → wps Γ M es W σ H Q
variable {P Γ M S pf}
theorem t_of {e : E} {W : WX} {t : TE} (ew : wp Γ M e W = .of t) (x : SimE P Γ M S pf e) (w : wf pf e = true) {A o env h σ H} {Q : Bool → Hp → Prop} (R : Rel P A o env h σ H) (p : Post P W A o env h σ H (pu pf e) (ev S e true env h) (GT Q)) : (wp Γ M e W).t σ H Q := by
  have y := x w W true A o env h σ H (fun v H1 => ∃ c, v = .bl c ∧ Q c H1) R (Post.imp p id fun d o' h' H' _ _ _ _ ⟨c, e1, q⟩ v r => by
    subst e1
    exact ⟨c, r.top.bl, q⟩)
  rw [ew] at y ⊢
  exact y
theorem fr_of (R : RelH P A o h H) : ∀ p, H p = none → ¬ UU A o p := fun p hp => R.fresh hp
/-- a plain value at the end -/
theorem fin_ok {q : Bool} {b : Bool} {d : Option D} {Q : VK} (R : Rel P A o env h σ H) (x : Post P W A o env h σ H q (ofO d h) (GE P A Q b)) : ∃ z, d = some z ∧ ∀ H' u, Same H H' → RpB P b (UU A o) (rho o) h.length H' z u → Q u H' := by
  obtain ⟨z, e, k⟩ := Post.ofO x R
  exact ⟨z, e, fun H' u s r => k H' s u r⟩
theorem bad_of {q : Bool} {G : α → (Loc → Option Addr) → MH → Hp → Prop} (x : Post P W A o env h σ H q (.bad : Out α) G) : False := x

/-! ### comprehensions -/
theorem wipe_get : ∀ (vs : List Nat) (σ : L2.St) (i : Nat), (wipe σ vs)[i]? = if i ∈ vs then (if i < σ.length then some none else none) else σ[i]?
  | [], σ, i => by simp [wipe]
  | v :: vs, σ, i => by
    unfold wipe
    by_cases z : v = i
    · subst z
      by_cases hl : v < σ.length
      · rw [List.getElem?_set_self (by rw [wipe_length]; exact hl)]
        simp [hl]
      · rw [List.getElem?_eq_none (by rw [List.length_set, wipe_length]; omega)]
        simp [hl]
    · rw [List.getElem?_set_ne z, wipe_get vs σ i]
      have : (i ∈ v :: vs) ↔ i ∈ vs := by simp; exact fun q => (z q.symm).elim
      simp only [this]
theorem wipeE_get : ∀ (vs : List Nat) (env : MEnv) (i : Nat), (wipeE env vs)[i]? = if i ∈ vs then (if i < env.length then some .un else none) else env[i]?
  | [], σ, i => by simp [wipeE]
  | v :: vs, σ, i => by
    have wl : ∀ vs : List Nat, (wipeE σ vs).length = σ.length := fun vs => by
      induction vs with
      | nil => rfl
      | cons a r ih => unfold wipeE; rw [List.length_set]; exact ih
    unfold wipeE
    by_cases z : v = i
    · subst z
      by_cases hl : v < σ.length
      · rw [List.getElem?_set_self (by rw [wl]; exact hl)]
        simp [hl]
      · rw [List.getElem?_eq_none (by rw [List.length_set, wl]; omega)]
        simp [hl]
    · rw [List.getElem?_set_ne z, wipeE_get vs σ i]
      have : (i ∈ v :: vs) ↔ i ∈ vs := by simp; exact fun q => (z q.symm).elim
      simp only [this]
theorem wipeE_length (env : MEnv) : ∀ vs : List Nat, (wipeE env vs).length = env.length
  | [] => rfl
  | v :: vs => by unfold wipeE; rw [List.length_set, wipeE_length env vs]
/-- the slots behind wiping -/
theorem Rel.wiped (own : List Nat) (R : Rel P A o env h σ H) : Rel P (hideA (fun i => own.contains i) A o) (hideO (fun i => own.contains i) o) (wipeE env own) h (wipe σ own) H :=
  { R.toRelH.hide _ with
    len := by rw [wipeE_length, wipe_length]; exact R.len
    sl := fun i s e => by
      rw [wipeE_get] at e
      by_cases z : i ∈ own
      · have e1 : hideO (fun i => own.contains i) o (.sl i) = none := by simp [hideO, z]
        rw [e1]
        rw [if_pos z] at e
        split at e
        · cases e
          rfl
        · cases e
      · rw [if_neg z] at e
        have e1 : hideO (fun i => own.contains i) o (.sl i) = o (.sl i) := by simp [hideO, z]
        have e2 : (wipe σ own).getD i none = σ.getD i none := by
          rw [List.getD_eq_getElem?_getD, wipe_get, if_neg z, List.getD_eq_getElem?_getD]
        rw [e1, e2]
        refine SlR.stay (A := A) (o := o) ?_ (fun _ _ => rfl) (R.sl i s e)
        rw [uu_hide]
        exact stay_same (Same.refl H) _
    slf := fun i hi => by
      rw [wipeE_length] at hi
      have := R.slf i hi
      show (if _ then none else o (.sl i)) = none
      rw [this]
      simp }
theorem dropS_own {own L : List Nat} (hs : ∀ i, i ∈ L → i ∈ own) (sl : ∀ i, i ∈ own → o (.sl i) = none) : dropS L o = o := by
  funext l
  cases l with
  | sl i =>
    by_cases z : i ∈ L
    · rw [sl i (hs i z)]
      simp [dropS, z]
    · simp [dropS, z]
  | ob r => rfl
  | fl r j => rfl
mutual
theorem tinT_sub {own : List Nat} : ∀ {t : T}, tinT own t = true → ∀ i, i ∈ tgs t → i ∈ own
  | .name j, e, i, hi => by
    have : i = j := by simpa [tgs] using hi
    subst this
    simpa [tinT] using e
  | .tup ts, e, i, hi => tinTs_sub (ts := ts) (by simpa [tinT] using e) i (by simpa [tgs] using hi)
theorem tinTs_sub {own : List Nat} : ∀ {ts : Ts}, tinTs own ts = true → ∀ i, i ∈ tgss ts → i ∈ own
  | .nil, e, i, hi => by simp [tgss] at hi
  | .cons t r, e, i, hi => by
    simp only [tinTs, Bool.and_eq_true] at e
    have : i ∈ tgs t ∨ i ∈ tgss r := by simpa [tgss] using hi
    exact this.elim (tinT_sub e.1 i) (tinTs_sub e.2 i)
end
theorem wipe_eq {own L : List Nat} {σ σ2 : L2.St} (hs : ∀ i, i ∈ L → i ∈ own) (k : ∀ i, i ∉ L → σ2[i]? = (wipe σ own)[i]?) (hl : σ2.length = (wipe σ own).length) : wipe σ2 own = wipe σ own := by
  apply List.ext_getElem?
  intro i
  rw [wipe_get, wipe_get]
  by_cases z : i ∈ own
  · rw [if_pos z, if_pos z, hl, wipe_length]
  · rw [if_neg z, if_neg z, k i (fun q => z (hs i q)), wipe_get, if_neg z]
theorem compL_step {f : D → MH → Out (Option D)} {d : D} {r acc ys : List D} {hh he : MH} (e : compL f (d :: r) acc hh = .ok ys he) :
    ∃ x h1, f d hh = .ok x h1 ∧ compL f r (match x with | some y => acc ++ [y] | none => acc) h1 = .ok ys he := by
  unfold compL at e
  cases q : f d hh with
  | ok x h1 =>
    rw [q] at e
    exact ⟨x, h1, rfl, e⟩
  | exc c p e1 h1 => rw [q] at e; cases e
  | bad => rw [q] at e; cases e
theorem bind_ok {m : Out α} {f : α → MH → Out β} {y : β} {h2 : MH} (e : m.bind f = .ok y h2) : ∃ x h1, m = .ok x h1 ∧ f x h1 = .ok y h2 := by
  cases m with
  | ok x h1 => exact ⟨x, h1, rfl, e⟩
  | exc c p e1 h1 => cases e
  | bad => cases e
theorem noX_ok {q : Bool} {m : Out α} {G : α → (Loc → Option Addr) → MH → Hp → Prop} (x : Post P W A o env h σ H q m.noX G) : ∃ y h2, m = .ok y h2 ∧ Post P W A o env h σ H q (.ok y h2) G := by
  cases m with
  | ok y h2 => exact ⟨y, h2, rfl, x⟩
  | exc c p e1 h1 => exact x.elim
  | bad => exact x.elim
variable (P Γ M S pf) in
def SimC (c : O) : Prop := wfo pf c = true → ∀ (W : WX) A o env h σ H Q, Rel P A o env h σ H → Post P W A o env h σ H (puo pf c) (evc S c env h) (fun k _ _ H' => Q k H') → wpc Γ M c W σ H Q
variable (P Γ M S pf) in
def SimO (c : O) : Prop := wfo pf c = true → ∀ (W : WX) A o env h σ H Q, Rel P A o env h σ H → Post P W A o env h σ H (puo pf c) (evo S c env h) (fun k _ _ H' => Q k H') → wpo Γ M c W σ H Q
variable (P Γ M S pf) in
def SimI (c : I) : Prop := wfI pf c = true → ∀ (W : WX) b A o env h σ H R, Rel P A o env h σ H → Post P W A o env h σ H (puI pf c) (evI S c b env h) (GI P A R (b && borI c)) → wpI Γ M c W σ H R
theorem stay_addT {d : Addr} (hd : H d = none) (s : Stp A o h H o' h' H') : Stay (UU A o) (UU (addA A d) o') (rho o) (rho o') h.length h'.length H H' where
  keep := fun a e u => by
    have hn : a ≠ d := fun z => e (by rw [z]; exact hd)
    obtain ⟨e1, u1⟩ := s.keep a e u
    exact ⟨e1, fun z => (uu_add.mp z).elim u1 hn⟩
  rho := s.stay.rho
  le := s.len
theorem Rel.stepA {d : Addr} (R : Rel P A o env h σ H) (hd : H d = none) (s : Stp A o h H o' h' H') (R' : RelH P (addA A d) o' h' H') : Rel P (addA A d) o' env h' σ H' :=
  { R' with
    len := R.len
    sl := fun i sl e => by
      have x := R.sl i sl e
      rw [s.sl i]
      exact x.stay (stay_addT hd s) fun a ea => s.slk i a ea
    slf := fun i hi => (s.sl i).trans (R.slf i hi) }
def erase (H : Hp) (D : Addr) : Hp := fun a => if a = D then none else H a
theorem erase_same {D : Addr} : erase H D D = none := by unfold erase; rw [if_pos rfl]
theorem erase_ne {D a : Addr} (e : a ≠ D) : erase H D a = H a := by unfold erase; rw [if_neg e]
theorem erase_upd {D : Addr} {ob : HO} : upd (erase H D) D ob = upd H D ob := by
  funext a
  by_cases e : a = D
  · subst e
    rw [upd_same, upd_same]
  · rw [upd_ne e, upd_ne e, erase_ne e]
theorem erase_back {D : Addr} {ob : HO} (e : H D = some ob) : upd (erase H D) D ob = H := by
  funext a
  by_cases z : a = D
  · subst z
    rw [upd_same, e]
  · rw [upd_ne z, erase_ne z]
theorem stay_erase {D : Addr} (n : Nat) : Stay (UU (addA A D) o) (UU A o) (rho o) (rho o) n n H (erase H D) where
  keep := fun a e u => ⟨erase_ne fun z => u (.inl (.inr z)), fun z => u (uu_add.mpr (.inl z))⟩
  rho := fun _ _ => rfl
  le := Nat.le_refl _
theorem RelH.erase {D : Addr} (R : RelH P (addA A D) o h H) (nA : ¬ A D) : RelH P A o h (MP.erase H D) := by
  have ne : ∀ {l a}, o l = some a → a ≠ D := fun e z => R.apart _ _ e (.inr z)
  refine ⟨R.inj, fun l a e u => R.apart l a e (.inl u), fun a u => ?_, fun l a e => ?_, fun r m e => ?_, R.far⟩
  · rw [erase_ne fun z => nA (by rw [← z]; exact u)]
    exact R.live a (.inl u)
  · rw [erase_ne (ne e)]
    exact R.ol l a e
  · exact ObR.stay (stay_erase _) rfl (fun _ => rfl) (fun l a e _ => erase_ne (ne e)) (R.ob r m e)
/-- a step from a heap without D -/
theorem Stp.erase {D : Addr} (R : RelH P A o h H) (hD : H D = none) (s : Stp A o h H o' h' H') : Stp A o h H o' h' (MP.erase H' D) := by
  have ne : ∀ {a}, H a ≠ none → a ≠ D := fun e z => e (by rw [z]; exact hD)
  exact ⟨fun a e u => ⟨(erase_ne (ne e)).trans (s.keep a e u).1, (s.keep a e u).2⟩, s.sl, fun i a e => (erase_ne (ne (R.ol _ a e))).trans (s.slk i a e), fun a u => (erase_ne (ne (R.live a u))).trans (s.ak a u), s.ob, s.len⟩
theorem Pure.erase {D : Addr} (hD : H D = none) (s : Pure o h H o' h' H') : Pure o h H o' h' (MP.erase H' D) := ⟨s.1, s.2.1, fun b u e => by rw [erase_ne (ne_of_none e hD)]; exact s.2.2 b u e⟩
noncomputable def bodyC (S : Sm) (e : E) (t : T) (c : O) (own : List Nat) (env : MEnv) (d : D) (h2 : MH) : Out (Option D) := match asg t d (wipeE env own) with
  | some e1 => (evc S c e1 h2).bind fun k h3 => if k then (ev S e false e1 h3).bind fun y h4 => .ok (some y) h4 else .ok none h3
  | none => .bad
theorem comp_ok (SO : SmOk P Γ M S pf) {e : E} {t : T} {c : O} {own : List Nat} (he : SimE P Γ M S pf e) (hc : SimC P Γ M S pf c) (we : wf pf e = true) (wc : wfo pf c = true) (wt : tinT own t = true) {bI : Bool} {J : It} {ds ys : List D} {h2 : MH}
    (its : Its P bI (UU A o) (rho o) h.length H J ds) (hb : bI = true → (pu pf e && puo pf c) = true) (R : Rel P A o env h σ H) (hl : lim ds.length = true) (x : compL (bodyC S e t c own env) ds [] h = .ok ys h2) {D : Addr} (hD : H D = none) {Qd : Hp → Prop}
    (k : ∀ o' H' vs, H' D = none → Rel P A o' env h2 σ H' → Stp A o h H o' h2 H' → ((pu pf e && puo pf c) = true → Pure o h H o' h2 H') → Rps P (UU A o') (rho o') h2.length H' ys vs → Qd (upd H' D (.lst vs))) :
    ∃ W : Nat → Nat → Hp → Prop, (∃ m, W 0 m (upd H D (.lst []))) ∧ ∀ i m H, W i m H →
      (J.stop i H ∧ Qd H) ∨ (J.go i H ∧ ∃ Nx : Hp → Prop, (∀ H', Nx H' → ∃ m', m' < m ∧ W (i + 1) m' H') ∧ ∀ x H', J.yld i H x H' → wpG Γ M t x (wipe σ own) H' fun σ2 H2 => wipe σ2 own = wipe σ own ∧ wpc Γ M c WX0 σ2 H2 fun b H3 =>
        if b = true then (wp Γ M e WX0).e σ2 H3 fun y H4 => ∃ acc, H4 D = some (.lst acc) ∧ acc.length < sizeLine ∧ Nx (upd H4 D (.lst (acc ++ [y]))) else Nx H3) := by
  obtain ⟨Gd, Y, wk, its⟩ := its
  generalize eA : hideA (fun i => own.contains i) A o = A1
  generalize eO : hideO (fun i => own.contains i) o = o1
  have Rw : Rel P A1 o1 (wipeE env own) h (wipe σ own) H := by subst eA eO; exact R.wiped own
  have eu : UU A1 o1 = UU A o := by subst eA eO; exact uu_hide _
  have er : rho o1 = rho o := by subst eO; rfl
  have os : ∀ i, i ∈ own → o1 (.sl i) = none := fun i hi => by subst eO; simp [hideO, hi]
  let Pv : Nat → Hp → Prop := fun i Hc => ∃ o2 hh acc vs, RelH P (addA A1 D) o2 hh Hc ∧ Stp A1 o1 h H o2 hh Hc ∧ ((pu pf e && puo pf c) = true → Pure o1 h H o2 hh Hc) ∧ Hc D = some (.lst vs) ∧ Rps P (UU (addA A1 D) o2) (rho o2) hh.length Hc acc vs ∧ acc.length ≤ i ∧
    compL (bodyC S e t c own env) (ds.drop i) acc hh = .ok ys h2
  have look : ∀ i Hc, Pv i Hc → Gd Hc ∧ ∀ o2 hh, RelH P (addA A1 D) o2 hh Hc → Stp A1 o1 h H o2 hh Hc → ((pu pf e && puo pf c) = true → Pure o1 h H o2 hh Hc) → ∀ i x H3, i < ds.length → Y i Hc x H3 → Same Hc H3 ∧ ∃ d, ds[i]? = some d ∧ Rp P (UU (addA A1 D) o2) (rho o2) hh.length H3 d x := by
    intro i Hc ⟨o2, hh, acc, vs, q1, q2, q3, _⟩
    have use : ∀ o2 hh, RelH P (addA A1 D) o2 hh Hc → Stp A1 o1 h H o2 hh Hc → ((pu pf e && puo pf c) = true → Pure o1 h H o2 hh Hc) → Gd Hc ∧ ∀ i x H3, i < ds.length → Y i Hc x H3 → Same Hc H3 ∧ ∃ d, ds[i]? = some d ∧ Rp P (UU (addA A1 D) o2) (rho o2) hh.length H3 d x := fun o2 hh q1 q2 q3 => by
      have st := stay_addT hD q2
      rw [eu, er] at st
      exact its _ _ _ Hc st (fun z => (q3 (hb z)).2.2) (fr_of q1)
    exact ⟨(use o2 hh q1 q2 q3).1, fun o2 hh q1 q2 q3 => (use o2 hh q1 q2 q3).2⟩
  refine lc_it wk Pv ?_ (fun i Hc _ p => (look i Hc p).1) (fun i x Hc H' hi p y => ?_) (fun Hc p => ?_)
  · exact ⟨o1, h, [], [], (Rw.toRelH).add hD, Stp.putT Rw.toRelH hD Stp.refl, fun _ => Pure.same (same_upd hD), upd_same, Rps.nil, Nat.zero_le _, x⟩
  · have lk := (look i Hc p).2
    obtain ⟨o2, hh, acc, vs, q1, q2, q3, q4, q5, q6, q7⟩ := p
    obtain ⟨sm, d, ed, rd⟩ := lk o2 hh q1 q2 q3 i x H' hi y
    have edr : ds.drop i = d :: ds.drop (i + 1) := by
      obtain ⟨h1, h2⟩ := List.getElem?_eq_some_iff.mp ed
      rw [List.drop_eq_getElem_cons h1, h2]
    rw [edr] at q7
    obtain ⟨x', h1, q8, q9⟩ := compL_step q7
    unfold bodyC at q8
    cases ea : asg t d (wipeE env own) with
    | none => rw [ea] at q8; cases q8
    | some e1 =>
      rw [ea] at q8
      obtain ⟨kk, h3, q10, q11⟩ := bind_ok q8
      have R0 : Rel P (addA A1 D) o2 (wipeE env own) hh (wipe σ own) H' := (Rel.stepA Rw hD q2 q1).same sm
      refine sG SO t ea R0 rd fun σ' R1 k1 l1 => ⟨wipe_eq (tinT_sub wt) k1 l1, ?_⟩
      rw [dropS_own (tinT_sub wt) (fun i hi => (q2.sl i).trans (os i hi))] at R1
      refine hc wc WX0 _ o2 e1 hh σ' H' _ R1 ?_
      rw [q10]
      intro o3 H3 R3 S3 P3
      have S03 : Stp A1 o1 h H o3 h3 H3 := Stp.addT Rw.toRelH hD q2 ((Stp.same q1 sm).trans q1 S3)
      have P03 : (pu pf e && puo pf c) = true → Pure o1 h H o3 h3 H3 := fun z => ((q3 z).trans (Pure.same sm)).trans (P3 (by simp only [Bool.and_eq_true] at z; exact z.2))
      have D3 : H3 D = some (.lst vs) := (S3.ak D (.inr rfl)).trans (sm _ _ q4)
      have rs3 : Rps P (UU (addA A1 D) o3) (rho o3) h3.length H3 acc vs := (q5.same sm).stay S3.stay
      cases kk with
      | false =>
        cases q11
        exact ⟨o3, h1, acc, vs, R3.toRelH, S03, P03, D3, rs3, Nat.le_succ_of_le q6, q9⟩
      | true =>
        obtain ⟨yy, h4, q12, q13⟩ := bind_ok q11
        cases q13
        refine he we WX0 false _ o3 e1 h3 σ' H3 _ R3 ?_
        rw [q12]
        intro o4 H4 R4 S4 P4 v rv
        have rv : Rp P (UU (addA A1 D) o4) (rho o4) h1.length H4 yy v := by simpa [RpB] using rv
        have D4 : H4 D = some (.lst vs) := (S4.ak D (.inr rfl)).trans D3
        refine ⟨vs, D4, ?_, o4, h1, acc ++ [yy], vs ++ [v], R4.toRelH.put, Stp.putT Rw.toRelH hD (Stp.addT Rw.toRelH hD S03 S4), fun z => ?_, upd_same, ?_, ?_, q9⟩
        · rw [q5.len]
          have := lim_le hl
          omega
        · have q := (P03 z).trans (P4 (by simp only [Bool.and_eq_true] at z; exact z.1))
          exact ⟨q.1, q.2.1, fun b ob e => by rw [upd_ne (ne_of_none e hD)]; exact q.2.2 b ob e⟩
        · exact ((rs3.stay S4.stay).append (Rps.cons rv Rps.nil)).stay (stay_put _)
        · simp
          omega
  · obtain ⟨o2, hh, acc, vs, q1, q2, q3, q4, q5, q6, q7⟩ := p
    rw [List.drop_length] at q7
    unfold compL at q7
    cases q7
    subst eA eO
    have nA : ¬ hideA (fun i => own.contains i) A o D := fun u => Rw.live D u hD
    have R2 := q1.erase nA
    have S2 := Stp.erase Rw.toRelH hD q2
    rw [← erase_back q4]
    refine k (backO o o2) (MP.erase Hc D) vs erase_same (R.step (S2.hide _ R2) (R.toRelH.back _ S2 R2)) (S2.hide _ R2) (fun z => ?_) ?_
    · obtain ⟨z1, z2, z3⟩ := Pure.erase hD (q3 z)
      refine ⟨?_, z2, z3⟩
      subst z1
      funext l
      cases l <;> rfl
    · rw [uu_back _ q2]
      exact q5.stay (stay_erase _)
end
end MP

set_option Elab.async false
set_option linter.all false
set_option maxRecDepth 100000
set_option maxHeartbeats 4000000
namespace MP
open PySem PySem.Spec PyProof.Rows L2
section
variable {P : Pm} {Γ : Tab} {M : Mo} {S : Sm} {pf : Nat → Bool} {A A' : Addr → Prop} {o o' o'' : Loc → Option Addr} {h h' h'' : MH} {H H' H'' : Hp} {env : MEnv} {σ : L2.St} {p : Addr} {W : WX} {α β : Type}
  {U : Addr → Prop} {ρ : Nat → Addr} {n : Nat}
/-! ### iterables -/
def StQ (P : Pm) (q : Hp → Addr → List V → Prop) (b : Bool) (U : Addr → Prop) (ρ : Nat → Addr) (n : Nat) (H : Hp) (a : Addr) (vs : List V) : Prop := ∀ U2 ρ2 n2 H2, Stay U U2 ρ ρ2 n n2 H H2 → (b = true → Same H H2) → q H2 a vs
theorem StQ.now {q : Hp → Addr → List V → Prop} {b : Bool} {a : Addr} {vs : List V} (x : StQ P q b U ρ n H a vs) : q H a vs := x U ρ n H (stay_refl (Same.refl H)) fun _ => Same.refl H
theorem lst_st {b : Bool} {xs : List D} {v : V} (r : RpB P b U ρ n H (.lst xs) v) : ∃ a vs, v = .ref a ∧ Rps P U ρ n H xs vs ∧ StQ P (SqL P.K) b U ρ n H a vs := by
  cases b with
  | false =>
    have r := r.val
    unfold Rp at r
    obtain ⟨a, vs, rfl, ⟨h1, h2⟩, h3⟩ := r
    exact ⟨a, vs, rfl, h3, fun U2 ρ2 n2 H2 st _ => .inl (.inl (((st.keep a (by rw [h1]; exact fun z => nomatch z) h2).1).trans h1))⟩
  | true =>
    obtain ⟨a, vs, rfl, h1, h3⟩ := r.top.lst
    exact ⟨a, vs, rfl, h3, fun U2 ρ2 n2 H2 st s => .inl (.inl (s rfl _ _ h1))⟩
theorem rol_st {b : Bool} {xs : List D} {v : V} (r : RpB P b U ρ n H (.rol xs) v) : ∃ a vs, v = .ref a ∧ Rps P U ρ n H xs vs ∧ StQ P (SqL P.K) b U ρ n H a vs := by
  have r : Rp P U ρ n H (.rol xs) v := by
    cases b with
    | false => exact r.val
    | true => exact r.top
  unfold Rp at r
  obtain ⟨a, vs, rfl, h1, h3⟩ := r
  rcases h1 with ⟨ob, h1, h2⟩ | h1
  · exact ⟨a, vs, rfl, h3, fun U2 ρ2 n2 H2 st _ => .inl (.inr ⟨ob, ((st.keep a (by rw [h1]; exact fun z => nomatch z) h2).1).trans h1⟩)⟩
  · exact ⟨a, vs, rfl, h3, fun U2 ρ2 n2 H2 st _ => .inr h1⟩
theorem tup_st {b : Bool} {xs : List D} {v : V} (r : RpB P b U ρ n H (.tup xs) v) : ∃ a vs, v = .ref a ∧ Rps P U ρ n H xs vs ∧ StQ P (SqT P.K) b U ρ n H a vs := by
  have r : Rp P U ρ n H (.tup xs) v := by
    cases b with
    | false => exact r.val
    | true => exact r.top
  unfold Rp at r
  obtain ⟨a, vs, rfl, h1, h3⟩ := r
  rcases h1 with ⟨h1, h2⟩ | h1
  · exact ⟨a, vs, rfl, h3, fun U2 ρ2 n2 H2 st _ => .inl (.inl (((st.keep a (by rw [h1]; exact fun z => nomatch z) h2).1).trans h1))⟩
  · exact ⟨a, vs, rfl, h3, fun U2 ρ2 n2 H2 st _ => .inr h1⟩
theorem its_list {b : Bool} {a : Addr} {vs : List V} {ds : List D} (r : Rps P U ρ n H ds vs) (q : StQ P (SqL P.K) b U ρ n H a vs) : Its P b U ρ n H (Itl P.K a) ds := by
  refine ⟨_, _, by rw [← r.len]; exact walk_list, fun U2 ρ2 n2 H2 st s fr => ⟨q U2 ρ2 n2 H2 st s, fun i x H3 hi y => ?_⟩⟩
  obtain ⟨rfl, e⟩ := y
  obtain ⟨d, e1, r1⟩ := (r.stay st).back e
  exact ⟨Same.refl _, d, e1, r1⟩
theorem its_tup {b : Bool} {a : Addr} {vs : List V} {ds : List D} (r : Rps P U ρ n H ds vs) (q : StQ P (SqT P.K) b U ρ n H a vs) : Its P b U ρ n H (Itt P.K a) ds := by
  refine ⟨_, _, by rw [← r.len]; exact walk_tup, fun U2 ρ2 n2 H2 st s fr => ⟨q U2 ρ2 n2 H2 st s, fun i x H3 hi y => ?_⟩⟩
  obtain ⟨rfl, e⟩ := y
  obtain ⟨d, e1, r1⟩ := (r.stay st).back e
  exact ⟨Same.refl _, d, e1, r1⟩
theorem rngD_len (lo : Int) (k : Nat) : (rngD lo k).length = k := by simp [rngD]
theorem its_rng {b : Bool} {lo : Int} {k : Nat} : Its P b U ρ n H (Itr lo k) (rngD lo k) := by
  refine ⟨_, _, by rw [rngD_len]; exact walk_range, fun U2 ρ2 n2 H2 st s fr => ⟨trivial, fun i x H3 hi y => ?_⟩⟩
  obtain ⟨rfl, rfl⟩ := y
  rw [rngD_len] at hi
  exact ⟨Same.refl _, .int (lo + i), by simp [rngD, hi], Rp.mkInt _⟩
theorem enumD_len : ∀ (ds : List D) (i : Nat), (enumD i ds).length = ds.length
  | [], _ => rfl
  | d :: r, i => by simp [enumD, enumD_len r]
theorem enumD_at : ∀ (ds : List D) (i k : Nat) (d : D), ds[k]? = some d → (enumD i ds)[k]? = some (.tup [.int ((i + k : Nat) : Int), d])
  | [], _, _, _, e => by simp at e
  | x :: r, i, 0, d, e => by
    simp at e
    subst e
    rfl
  | x :: r, i, k + 1, d, e => by
    have := enumD_at r (i + 1) k d (by simpa using e)
    rw [show i + 1 + k = i + (k + 1) by omega] at this
    simpa [enumD] using this
theorem its_enum {b : Bool} {a : Addr} {vs : List V} {ds : List D} (r : Rps P U ρ n H ds vs) (q : StQ P (SqL P.K) b U ρ n H a vs) : Its P b U ρ n H (Ite P.K a) (enumD 0 ds) := by
  refine ⟨_, _, by rw [enumD_len, ← r.len]; exact walk_enum, fun U2 ρ2 n2 H2 st s fr => ⟨q U2 ρ2 n2 H2 st s, fun i x H3 hi y => ?_⟩⟩
  obtain ⟨T, u, w, rfl, hT, rfl, e1, e2⟩ := y
  cases e1
  obtain ⟨d, e3, r1⟩ := (r.stay st).back e2
  refine ⟨same_upd hT, _, enumD_at _ _ _ _ e3, Rp.newT fr hT ?_⟩
  rw [Nat.zero_add]
  exact Rps.cons (Rp.mkInt _) (Rps.cons r1 Rps.nil)
theorem zip_len : ∀ (xs ys : List D), (zipPair xs ys).length = min xs.length ys.length
  | [], ys => by simp [zipPair]
  | x :: xs, [] => by simp [zipPair]
  | x :: xs, y :: ys => by simp [zipPair, zip_len xs ys]
theorem zip_at : ∀ (xs ys : List D) (i : Nat) (x y : D), xs[i]? = some x → ys[i]? = some y → (zipPair xs ys)[i]? = some (.tup [x, y])
  | [], _, _, _, _, e, _ => by simp at e
  | _ :: _, [], _, _, _, _, e => by simp at e
  | a :: xs, b :: ys, 0, x, y, e, e2 => by
    simp at e e2
    subst e e2
    rfl
  | a :: xs, b :: ys, i + 1, x, y, e, e2 => by
    have := zip_at xs ys i x y (by simpa using e) (by simpa using e2)
    simpa [zipPair] using this
theorem walk_zipT {K : PySem.W.Frag} {a b : Addr} {xs ys : List V} {n : Nat} (hn : n = min xs.length ys.length) : Walk (RZ.ItzT K a b) n (fun H => SqT K H a xs ∧ SqT K H b ys) (YPair (fun i => xs[i]?) (fun i => ys[i]?)) := by
  subst hn
  refine ⟨fun i _ hi q => ?_, fun _ q => ⟨xs, ys, q.1, q.2, by omega⟩, fun i H v H' _ q y => ?_⟩
  · have h1 : i < xs.length := by omega
    have h2 : i < ys.length := by omega
    exact ⟨xs, ys, xs[i], ys[i], q.1, q.2, by simp [h1], by simp [h2]⟩
  · obtain ⟨T, x, z, h1, h2, h3, h4, h5⟩ := y
    exact ⟨T, x, z, h1, h2, h3, h4 xs q.1, h5 ys q.2⟩
theorem its_zip {b c d : Bool} {a1 a2 : Addr} {vs ws : List V} {ds es : List D} (r : Rps P U ρ n H ds vs) (q : StQ P (SqL P.K) b U ρ n H a1 vs) (r2 : Rps P U ρ n H es ws) (q2 : StQ P (SqL P.K) c U ρ n H a2 ws) (hb : b = true → d = true) (hc : c = true → d = true) :
    Its P d U ρ n H (Itz P.K a1 a2) (zipPair ds es) := by
  refine ⟨_, _, walk_zip (by rw [zip_len, ← r.len, ← r2.len]), fun U2 ρ2 n2 H2 st s fr => ⟨⟨q U2 ρ2 n2 H2 st fun z => s (hb z), q2 U2 ρ2 n2 H2 st fun z => s (hc z)⟩, fun i x H3 hi y => ?_⟩⟩
  obtain ⟨T, u, w, rfl, hT, rfl, e1, e2⟩ := y
  obtain ⟨d1, e3, r3⟩ := (r.stay st).back e1
  obtain ⟨d2, e4, r4⟩ := (r2.stay st).back e2
  exact ⟨same_upd hT, _, zip_at _ _ _ _ _ e3 e4, Rp.newT fr hT (Rps.cons r3 (Rps.cons r4 Rps.nil))⟩
theorem its_zipT {b c d : Bool} {a1 a2 : Addr} {vs ws : List V} {ds es : List D} (r : Rps P U ρ n H ds vs) (q : StQ P (SqT P.K) b U ρ n H a1 vs) (r2 : Rps P U ρ n H es ws) (q2 : StQ P (SqT P.K) c U ρ n H a2 ws) (hb : b = true → d = true) (hc : c = true → d = true) :
    Its P d U ρ n H (RZ.ItzT P.K a1 a2) (zipPair ds es) := by
  refine ⟨_, _, walk_zipT (by rw [zip_len, ← r.len, ← r2.len]), fun U2 ρ2 n2 H2 st s fr => ⟨⟨q U2 ρ2 n2 H2 st fun z => s (hb z), q2 U2 ρ2 n2 H2 st fun z => s (hc z)⟩, fun i x H3 hi y => ?_⟩⟩
  obtain ⟨T, u, w, rfl, hT, rfl, e1, e2⟩ := y
  obtain ⟨d1, e3, r3⟩ := (r.stay st).back e1
  obtain ⟨d2, e4, r4⟩ := (r2.stay st).back e2
  exact ⟨same_upd hT, _, zip_at _ _ _ _ _ e3 e4, Rp.newT fr hT (Rps.cons r3 (Rps.cons r4 Rps.nil))⟩

/-! ### bits of the walk -/
theorem post_addA {q : Bool} {out : Out α} {G : α → (Loc → Option Addr) → MH → Hp → Prop} {p : Addr} {ob : HO} (R : RelH P A o h H) (hp : H p = none) (x : Post P W A o env h σ H q out G) : Post P W (addA A p) o env h σ (upd H p ob) q out G := by
  have dropR : ∀ {o' h' H'}, Rel P (addA A p) o' env h' σ H' → Rel P A o' env h' σ H' := fun R' => { R'.toRelH.drop with
    len := R'.len
    sl := fun i s e => (R'.sl i s e).stay (stay_drop _) fun _ _ => rfl
    slf := R'.slf }
  have st0 : Stp A o h H o h (upd H p ob) := Stp.same R (same_upd hp)
  cases out with
  | ok d h1 =>
    intro o1 H1 R1 S1 P1
    refine x o1 H1 (dropR R1) ?_ fun z => ?_
    · exact ⟨fun a e u => by
        have hn : a ≠ p := fun z => e (by rw [z]; exact hp)
        obtain ⟨q1, q2⟩ := S1.keep a (by rw [upd_ne hn]; exact e) fun z => (uu_add.mp z).elim u hn
        exact ⟨by rw [q1, upd_ne hn], fun z => q2 (uu_add.mpr (.inl z))⟩, S1.sl, fun i a e => (S1.slk i a e).trans (st0.slk i a e), fun a u => (S1.ak a (.inl u)).trans (st0.ak a u), S1.ob, S1.len⟩
    · obtain ⟨z1, z2, z3⟩ := P1 z
      exact ⟨z1, z2, fun b u e => z3 b u (by rw [upd_ne (ne_of_none e hp)]; exact e)⟩
  | exc c pp e h1 =>
    intro o1 H1 cls dd R1 S1 ex
    refine x o1 H1 cls dd (dropR R1) ?_ ?_
    · exact ⟨fun a e u => by
        have hn : a ≠ p := fun z => e (by rw [z]; exact hp)
        obtain ⟨q1, q2⟩ := S1.keep a (by rw [upd_ne hn]; exact e) fun z => (uu_add.mp z).elim u hn
        exact ⟨by rw [q1, upd_ne hn], fun z => q2 (uu_add.mpr (.inl z))⟩, S1.sl, fun i a e => (S1.slk i a e).trans (st0.slk i a e), fun a u => (S1.ak a (.inl u)).trans (st0.ak a u), S1.ob, S1.len⟩
    · unfold ExR at *
      refine ⟨ex.1, ?_⟩
      cases pp with
      | none => exact ex.2
      | some d =>
        obtain ⟨q1, v, e1, e2, r⟩ := ex.2
        exact ⟨q1, v, e1, e2, r.stay (stay_drop _)⟩
  | bad => exact x
theorem Post.tail {q : Bool} {out : Out α} {f : α → MH → Out β} {G : β → (Loc → Option Addr) → MH → Hp → Prop} (x : Post P W A o env h σ H q (out.bind f) G) (hf : ∀ d h1, f d h1 = .bad ∨ ∃ d2, f d h1 = .ok d2 h1) :
    Post P W A o env h σ H q out (fun d o1 h1 H1 => ∃ d2, f d h1 = .ok d2 h1 ∧ ∀ o' H', Rel P A o' env h1 σ H' → Stp A o h H o' h1 H' → (q = true → Pure o h H o' h1 H') → G d2 o' h1 H') := by
  cases out with
  | ok d h1 =>
    intro o1 H1 R1 S1 P1
    have x' : Post P W A o env h σ H q (f d h1) G := x
    rcases hf d h1 with e | ⟨d2, e⟩
    · rw [e] at x'
      exact x'.elim
    · rw [e] at x'
      exact ⟨d2, e, x'⟩
  | exc c p e h1 => exact x
  | bad => exact x
theorem isnon_ok {d : D} {v : V} (r : RpT P U ρ n H d v) : decide (v = .non) = d.isN := by
  cases d with
  | non => rw [r.non]; rfl
  | bl b => rw [r.bl]; rfl
  | int b => rw [r.int]; rfl
  | str b => rw [r.str]; rfl
  | ty b => rw [r.ty]; rfl
  | tup xs => obtain ⟨a, vs, rfl, _⟩ := r.tup; rfl
  | lst xs => obtain ⟨a, vs, rfl, _⟩ := r.lst; rfl
  | rol xs => obtain ⟨a, vs, rfl, _⟩ := r.rol; rfl
  | dic xs => obtain ⟨a, vs, rfl, _⟩ := r.dic; rfl
  | ins c fs =>
    have r : Rp P U ρ n H (.ins c fs) v := r
    unfold Rp at r
    obtain ⟨a, _, _, rfl, _⟩ := r
    rfl
  | ref k =>
    have r : Rp P U ρ n H (.ref k) v := r
    unfold Rp at r
    rw [r.2]
    rfl
theorem RpBs.val {ds : List D} {vs : List V} (r : RpBs P false U ρ n H ds vs) : Rps P U ρ n H ds vs := by simpa [RpBs] using r
theorem RpBs.tops {ds : List D} {vs : List V} (r : RpBs P true U ρ n H ds vs) : RpTs P U ρ n H ds vs := by simpa [RpBs] using r
theorem RpBs.nil {b : Bool} : RpBs P b U ρ n H [] [] := by
  unfold RpBs
  cases b with
  | false => exact (Rps.nil : Rps P U ρ n H [] [])
  | true => exact (RpTs.nil : RpTs P U ρ n H [] [])
theorem RpBs.cons {b : Bool} {d : D} {v : V} {ds : List D} {vs : List V} (r : RpB P b U ρ n H d v) (t : RpBs P b U ρ n H ds vs) : RpBs P b U ρ n H (d :: ds) (v :: vs) := by
  cases b with
  | false => exact Rps.cons r.val t.val
  | true => exact RpTs.cons r.top t.tops
theorem okT_of : ∀ {es : Es}, pus pf es = true → okT pf es = true
  | .nil, _ => rfl
  | .cons e r, h => by
    simp only [pus, Bool.and_eq_true] at h
    exact h.2
end
end MP

set_option Elab.async false
set_option linter.all false
set_option maxRecDepth 100000
set_option maxHeartbeats 4000000
namespace MP
open PySem PySem.Spec PyProof.Rows L2
section
variable {P : Pm} {Γ : Tab} {M : Mo} {S : Sm} {pf : Nat → Bool} {h : MH} {W : WX}
theorem ofE {e : E} {t : WX → TE} (ew : ∀ W, wp Γ M e W = .of (t W)) (x : SimE P Γ M S pf e) : SimE P Γ M S pf e ∧ SimT P Γ M S pf e :=
  ⟨x, fun w W A o env h σ H Q R p => t_of (ew W) x w R p⟩
variable (P Γ M S pf) in
def SimAnd (es : Es) : Prop := wfs pf es = true → ∀ (W : WX) A o env h σ H, Rel P A o env h σ H → (∀ Q b, Post P W A o env h σ H (pus pf es) (evAnd S es env h) (GE P A Q b) → (wpAnd Γ M es W).e σ H Q) ∧ (∀ Q, Post P W A o env h σ H (pus pf es) (evAnd S es env h) (GT Q) → (wpAnd Γ M es W).t σ H Q)
variable (P Γ M S pf) in
def SimOr (es : Es) : Prop := wfs pf es = true → ∀ (W : WX) A o env h σ H, Rel P A o env h σ H → (∀ Q b, Post P W A o env h σ H (pus pf es) (evOr S es env h) (GE P A Q b) → (wpOr Γ M es W).e σ H Q) ∧ (∀ Q, Post P W A o env h σ H (pus pf es) (evOr S es env h) (GT Q) → (wpOr Γ M es W).t σ H Q)
variable (P Γ M S pf) in
def SimPs (ps : Ps) : Prop := wfp pf ps = true → ∀ (W : WX) A o env h σ H Q, Rel P A o env h σ H → Post P W A o env h σ H (pup pf ps) (evp S ps env h) (fun kvs o' h' H' => ∀ l : List (Key × V), Rkv P (UU A o') (rho o') h'.length H' kvs (l.map fun p => (.inl p.1, p.2)) → kvs.length = l.length → Q (l.map fun kv => (kV kv.1, kv.2)) H') → tPairs (wpp Γ M ps W) σ H Q
theorem ge_fin {A : Addr → Prop} {o : Loc → Option Addr} {env : MEnv} {σ : L2.St} {H : Hp} {q b : Bool} {d : D} {Q : VK} (x : Post P W A o env h σ H q (.ok d h) (GE P A Q b)) (R : Rel P A o env h σ H) {H' : Hp} {v : V} (s : Same H H') (r : Rp P (UU A o) (rho o) h.length H' d v) : Q v H' :=
  Post.done x R s v (RpB.of r)
theorem gt_fin {A : Addr → Prop} {o : Loc → Option Addr} {env : MEnv} {σ : L2.St} {H : Hp} {q : Bool} {c : Bool} {Q : Bool → Hp → Prop} (x : Post P W A o env h σ H q (.ok (.bl c) h) (GT Q)) (R : Rel P A o env h σ H) : Q c H := by
  obtain ⟨c', e, y⟩ := Post.done x R (Same.refl H)
  cases e
  exact y
mutual
theorem sE (SO : SmOk P Γ M S pf) : ∀ e : E, SimE P Γ M S pf e ∧ SimT P Γ M S pf e
  | .var i => ofE (fun W => by rw [wp]) fun w W b A o env h σ H Q R x => by
    rw [wp]
    rw [ev] at x
    show ∃ v, σ[i]? = some (some v) ∧ Q v H
    split at x
    · rename_i s es
      obtain ⟨z, ez, k⟩ := fin_ok R x
      obtain ⟨u, e1, r⟩ := slot_ok R.toRelH ez (R.sl i s es)
      refine ⟨u, ?_, k H u (Same.refl H) (by simpa [bor] using r)⟩
      have hi : i < σ.length := by rw [← R.len]; exact (List.getElem?_eq_some_iff.mp es).1
      rw [List.getD_eq_getElem?_getD] at e1
      simp [hi] at e1 ⊢
      exact e1
    · exact x.elim
  | .lit l => ofE (fun W => by rw [wp]) fun w W b A o env h σ H Q R x => by
    rw [wp]
    show Q l.v H
    cases l <;> exact ge_fin x R (Same.refl H) (by unfold Rp; rfl)
  | .glb k => ofE (fun W => by rw [wp]) fun w W b A o env h σ H Q R x => by
    rw [wp]
    rw [ev] at x
    exact ge_fin x R (Same.refl H) (SO.con _ _ _ _ _)
  | .bty n => ofE (fun W => by rw [wp]) fun w W b A o env h σ H Q R x => by
    rw [wp]
    rw [ev] at x
    exact ge_fin x R (Same.refl H) (by unfold Rp; rfl)
  | .tup es => ofE (fun W => by rw [wp]) fun w W b A o env h σ H Q R x => by
    rw [wp]
    rw [ev] at x
    simp only [wf, Bool.and_eq_true, decide_eq_true_eq] at w
    refine sEs SO es w.1 W false A o env h σ H _ (fun z => nomatch z) R (Post.sub (q2 := true) R.toRelH x (fun z => ⟨z, rfl⟩) fun ds o1 h1 H1 e1 R1 S1 P1 x1 hl vs rv => ⟨?_, fun p hp => ?_⟩)
    · rw [rv.val.len, hl, sizeLine_eq]
      omega
    · exact ge_fin x1 R1 (same_upd hp) (Rp.newT (fr_of R1.toRelH) hp rv.val)
  | .lst es => ofE (fun W => by rw [wp]) fun w W b A o env h σ H Q R x => by
    rw [wp]
    rw [ev] at x
    simp only [wf, Bool.and_eq_true, decide_eq_true_eq] at w
    refine sEs SO es w.1 W false A o env h σ H _ (fun z => nomatch z) R (Post.sub (q2 := true) R.toRelH x (fun z => ⟨z, rfl⟩) fun ds o1 h1 H1 e1 R1 S1 P1 x1 hl vs rv => ⟨?_, fun p hp => ?_⟩)
    · rw [rv.val.len, hl, sizeLine_eq]
      omega
    · exact ge_fin x1 R1 (same_upd hp) (Rp.newL (fr_of R1.toRelH) hp rv.val)
  | .dsp .nil => ofE (fun W => by rw [wp]) fun w W b A o env h σ H Q R x => by
    rw [wp]
    rw [ev, evp] at x
    refine .inl fun p hp => ge_fin (d := .dic []) x R (same_upd hp) ?_
    unfold Rp
    exact ⟨p, [], rfl, ⟨.inl ⟨[], upd_same, rfl⟩, R.toRelH.fresh hp⟩, Rkv.nil⟩
  | .dsp (.cons k v r) => ofE (fun W => by rw [wp]) fun w W b A o env h σ H Q R x => by
    rw [wp]
    rw [ev] at x
    intro p hp
    have x1 := Post.tail x fun kvs h1 => by
      by_cases z : kvs.length ≤ 15
      · exact .inr ⟨_, if_pos z⟩
      · exact .inl (if_neg z)
    have wp' : wfp pf (.cons k v r) = true := by simpa [wf] using w
    have go := sPs SO (.cons k v r) wp' W (addA A p) o env h σ (upd H p (.dK []))
      (fun ps H2 => H2 p = some (.dK []) ∧ ∃ kvs : List (Key × V), ps = kvs.map (fun kv => (kV kv.1, kv.2)) ∧ kvs.length ≤ 15 ∧ Q (.ref p) (upd H2 p (.dK (mergeK [] kvs)))) (R.add hp) ?_
    · rw [wpp] at go
      exact go
    refine Post.imp (post_addA R.toRelH hp x1) id fun kvs o1 h1 H1 e1 R1 S1 P1 y l rl hl => ?_
    obtain ⟨d2, q1, q2⟩ := y
    have hp1 : H1 p = some (.dK []) := (S1.ak p (.inr rfl)).trans upd_same
    split at q1
    · rename_i h15
      cases q1
      refine ⟨hp1, l, rfl, by rw [← hl]; exact h15, ?_⟩
      have Sd : Stp A o h H o1 h1 H1 := Stp.addT R.toRelH hp (Stp.putT R.toRelH hp Stp.refl) S1
      have RH : RelH P A o1 h1 (upd H1 p (.dK (mergeK [] l))) := (R1.toRelH.put).drop
      have S2 : Stp A o h H o1 h1 (upd H1 p (.dK (mergeK [] l))) := Stp.putT R.toRelH hp Sd
      refine q2 o1 _ (R.step S2 RH) S2 (fun z => ?_) _ (RpB.of ?_)
      · obtain ⟨z1, z2, z3⟩ := P1 (by simpa [pu] using z)
        refine ⟨z1, z2, fun b u e => ?_⟩
        have hn : b ≠ p := ne_of_none e hp
        rw [upd_ne hn]
        exact z3 b u (by rw [upd_ne hn]; exact e)
      · unfold Rp
        have m := merge_rel l rl (wl := []) (Rkv.nil)
        refine ⟨p, _, rfl, ⟨.inl ⟨_, upd_same, rfl⟩, fun u => ?_⟩, (m.stay (stay_put _)).stay (stay_drop _)⟩
        rcases u with u | ⟨l', u⟩
        · exact R.live p u hp
        · exact R1.apart l' p u (.inr rfl)
    · cases q1
  | .bin op a c => ofE (fun W => by rw [wp]) fun w W b A o env h σ H Q R x => by
    rw [wp]
    rw [ev] at x
    simp only [wf, Bool.and_eq_true] at w
    refine (sE SO a).1 w.1.1 W true A o env h σ H _ R (Post.sub (q2 := pu pf c) R.toRelH x (fun z => by simpa [pu] using z) fun d o1 h1 H1 e1 R1 S1 P1 x1 v rv => ?_)
    refine (sE SO c).1 w.1.2 W true A o1 env h1 σ H1 _ R1 (Post.sub (q2 := true) R1.toRelH x1 (fun z => ⟨z, rfl⟩) fun d2 o2 h2 H2 e2 R2 S2 P2 x2 u ru => ?_)
    obtain ⟨z, ez, k⟩ := fin_ok R2 x2
    have w2 := w.2
    have rv' := rv.keep S2 fun hb => P2 (by simp only [ordB, Bool.or_eq_true, Bool.not_eq_true'] at w2; rcases w2 with w2 | w2 <;> simp_all)
    rw [SO.K]
    exact rbin_ok (fr_of R2.toRelH) ez rv'.top ru.top fun H' u s r => k H' u s (RpB.of r)
  | .neg a => ofE (fun W => by rw [wp]) fun w W b A o env h σ H Q R x => by
    rw [wp]
    rw [ev] at x
    simp only [wf] at w
    refine (sE SO a).1 w W true A o env h σ H _ R (Post.sub (q2 := true) R.toRelH x (fun z => ⟨z, rfl⟩) fun d o1 h1 H1 e1 R1 S1 P1 x1 v rv => ?_)
    split at x1
    · rename_i i
      exact ⟨i, rv.top.int, ge_fin x1 R1 (Same.refl _) (Rp.mkInt _)⟩
    · exact x1.elim
  | .not a => by
    refine ⟨fun w W b A o env h σ H Q R x => ?_, fun w W A o env h σ H Q R x => ?_⟩
    · rw [wp]
      rw [ev] at x
      simp only [wf] at w
      refine (sE SO a).1 w W true A o env h σ H _ R (Post.sub (q2 := true) R.toRelH x (fun z => ⟨z, rfl⟩) fun d o1 h1 H1 e1 R1 S1 P1 x1 v rv => ?_)
      split at x1
      · rename_i i
        exact ⟨i, rv.top.bl, ge_fin x1 R1 (Same.refl _) (Rp.mkBl _)⟩
      · exact x1.elim
    · rw [wp]
      rw [ev] at x
      simp only [wf] at w
      refine (sE SO a).2 w W A o env h σ H _ R (Post.sub (q2 := true) R.toRelH x (fun z => ⟨z, rfl⟩) fun d o1 h1 H1 e1 R1 S1 P1 x1 => ?_)
      split at x1
      · rename_i i
        exact ⟨i, rfl, gt_fin x1 R1⟩
      · exact x1.elim
  | .andl es => by
    refine ⟨fun w W b A o env h σ H Q R x => ?_, fun w W A o env h σ H Q R x => ?_⟩
    · rw [wp]
      rw [ev] at x
      exact (sAnd SO es (by simpa [wf] using w) W A o env h σ H R).1 Q _ x
    · rw [wp]
      rw [ev] at x
      exact (sAnd SO es (by simpa [wf] using w) W A o env h σ H R).2 Q x
  | .orl es => by
    refine ⟨fun w W b A o env h σ H Q R x => ?_, fun w W A o env h σ H Q R x => ?_⟩
    · rw [wp]
      rw [ev] at x
      exact (sOr SO es (by simpa [wf] using w) W A o env h σ H R).1 Q _ x
    · rw [wp]
      rw [ev] at x
      exact (sOr SO es (by simpa [wf] using w) W A o env h σ H R).2 Q x
  | .ife c a e => by
    refine ⟨fun w W b A o env h σ H Q R x => ?_, fun w W A o env h σ H Q R x => ?_⟩
    · rw [wp]
      rw [ev] at x
      simp only [wf, Bool.and_eq_true] at w
      refine (sE SO c).2 w.1.1 W A o env h σ H _ R (Post.sub (q2 := pu pf a && pu pf e) R.toRelH x (fun z => by simp only [pu, Bool.and_eq_true] at z; simp [z]) fun d o1 h1 H1 e1 R1 S1 P1 x1 => ?_)
      split at x1
      · refine ⟨true, rfl, ?_⟩
        exact (sE SO a).1 w.1.2 W b A o1 env h1 σ H1 Q R1 (Post.imp x1 (fun z => by simp only [Bool.and_eq_true] at z; exact z.1) fun d o2 h2 H2 e2 R2 S2 P2 g v r => g v (r.mono fun z => by simp only [Bool.and_eq_true] at z; simp [bor, z]))
      · refine ⟨false, rfl, ?_⟩
        exact (sE SO e).1 w.2 W b A o1 env h1 σ H1 Q R1 (Post.imp x1 (fun z => by simp only [Bool.and_eq_true] at z; exact z.2) fun d o2 h2 H2 e2 R2 S2 P2 g v r => g v (r.mono fun z => by simp only [Bool.and_eq_true] at z; simp [bor, z]))
      · exact x1.elim
    · rw [wp]
      rw [ev] at x
      simp only [wf, Bool.and_eq_true] at w
      refine (sE SO c).2 w.1.1 W A o env h σ H _ R (Post.sub (q2 := pu pf a && pu pf e) R.toRelH x (fun z => by simp only [pu, Bool.and_eq_true] at z; simp [z]) fun d o1 h1 H1 e1 R1 S1 P1 x1 => ?_)
      split at x1
      · refine ⟨true, rfl, ?_⟩
        exact (sE SO a).2 w.1.2 W A o1 env h1 σ H1 Q R1 (Post.imp x1 (fun z => by simp only [Bool.and_eq_true] at z; exact z.1) fun d o2 h2 H2 e2 R2 S2 P2 g => g)
      · refine ⟨false, rfl, ?_⟩
        exact (sE SO e).2 w.2 W A o1 env h1 σ H1 Q R1 (Post.imp x1 (fun z => by simp only [Bool.and_eq_true] at z; exact z.2) fun d o2 h2 H2 e2 R2 S2 P2 g => g)
      · exact x1.elim
  | .cmp op a c => ofE (fun W => by rw [wp]) fun w W b A o env h σ H Q R x => by
    rw [wp]
    rw [ev] at x
    simp only [wf, Bool.and_eq_true] at w
    refine (sE SO a).1 w.1.1 W true A o env h σ H _ R (Post.sub (q2 := pu pf c) R.toRelH x (fun z => by simpa [pu] using z) fun d o1 h1 H1 e1 R1 S1 P1 x1 v rv => ?_)
    refine (sE SO c).1 w.1.2 W true A o1 env h1 σ H1 _ R1 (Post.sub (q2 := true) R1.toRelH x1 (fun z => ⟨z, rfl⟩) fun d2 o2 h2 H2 e2 R2 S2 P2 x2 u ru => ?_)
    obtain ⟨z, ez, k⟩ := fin_ok R2 x2
    obtain ⟨zb, ez2, rfl⟩ := Option.map_eq_some_iff.mp ez
    have w2 := w.2
    have rv' := rv.keep S2 fun hb => P2 (by simp only [ordB, Bool.or_eq_true, Bool.not_eq_true'] at w2; rcases w2 with w2 | w2 <;> simp_all)
    rw [SO.K]
    exact rcmp_ok ez2 rv'.top ru.top (k _ _ (Same.refl _) (RpB.of (Rp.mkBl _)))
  | .isN a => ofE (fun W => by rw [wp]) fun w W b A o env h σ H Q R x => by
    rw [wp]
    rw [ev] at x
    simp only [wf] at w
    refine (sE SO a).1 w W true A o env h σ H _ R (Post.sub (q2 := true) R.toRelH x (fun z => ⟨z, rfl⟩) fun d o1 h1 H1 e1 R1 S1 P1 x1 v rv => ?_)
    show Q (.bl (decide (v = .non))) H1
    rw [isnon_ok rv.top]
    exact ge_fin x1 R1 (Same.refl _) (Rp.mkBl _)
  | .ntN a => ofE (fun W => by rw [wp]) fun w W b A o env h σ H Q R x => by
    rw [wp]
    rw [ev] at x
    simp only [wf] at w
    refine (sE SO a).1 w W true A o env h σ H _ R (Post.sub (q2 := true) R.toRelH x (fun z => ⟨z, rfl⟩) fun d o1 h1 H1 e1 R1 S1 P1 x1 v rv => ?_)
    show Q (.bl (!decide (v = .non))) H1
    rw [isnon_ok rv.top]
    exact ge_fin x1 R1 (Same.refl _) (Rp.mkBl _)
  | .idx a i => ofE (fun W => by rw [wp]) fun w W b A o env h σ H Q R x => by
    rw [wp]
    rw [ev] at x
    simp only [wf, Bool.and_eq_true] at w
    have pz : (true && bor a) = true → pu pf i = true := fun hb => by
      have w2 := w.2
      simp only [ordB, Bool.or_eq_true, Bool.not_eq_true'] at w2
      rcases w2 with w2 | w2 <;> simp_all
    have x0 := Post.sub (G' := fun d o1 h1 H1 => ∀ v, RpB P (true && bor a) (UU A o1) (rho o1) h1.length H1 d v → (wp Γ M i W).e σ H1 fun u H2 => (d.isDic = false → rIx M.K v u H2 Q) ∧ (d.isDic = true → ∃ ad w, v = .ref ad ∧ DGet H2 ad u (some w) ∧ Q w H2)) (q1 := pu pf a) (q2 := pu pf i) R.toRelH x (fun z => by simpa [pu] using z) fun d o1 h1 H1 e1 R1 S1 P1 x1 v rv => by
      refine (sE SO i).1 w.1.2 W false A o1 env h1 σ H1 _ R1 (Post.sub (q2 := true) R1.toRelH x1 (fun z => ⟨z, rfl⟩) fun d2 o2 h2 H2 e2 R2 S2 P2 x2 u ru => ?_)
      obtain ⟨z, ez, k⟩ := fin_ok R2 x2
      obtain ⟨z', ez2, rfl⟩ := Option.map_eq_some_iff.mp ez
      have rv' := rv.keep S2 fun hb => P2 (pz hb)
      rw [SO.K]
      exact ridx_ok ez2 rv'.top ru.top fun u r => k _ u (Same.refl _) (by simpa [bor] using view_ok R2.toRelH r)
    by_cases c : ∃ kvs h1, ev S a true env h = .ok (.dic kvs) h1
    · refine .inr ((sE SO a).1 w.1.1 W true A o env h σ H _ R (Post.imp x0 id fun d o1 h1 H1 e1 R1 S1 P1 g v rv => ?_))
      obtain ⟨kvs, h1', ec⟩ := c
      rw [ec] at e1
      cases e1
      have g1 := g v rv
      simp only [D.isDic, forall_const, Bool.true_eq_false, false_implies, true_and] at g1
      exact g1
    · refine .inl ((sE SO a).1 w.1.1 W true A o env h σ H _ R (Post.imp x0 id fun d o1 h1 H1 e1 R1 S1 P1 g v rv => ?_))
      have g1 := g v rv
      have nd : d.isDic = false := by
        cases d <;> first | rfl | exact (c ⟨_, _, e1⟩).elim
      simp only [nd, forall_const, Bool.false_eq_true, false_implies, and_true] at g1
      exact g1
  | .slc a lo hi => ofE (fun W => by rw [wp]) fun w W b A o env h σ H Q R x => by
    rw [wp]
    rw [ev] at x
    simp only [wf, Bool.and_eq_true] at w
    refine (sE SO a).1 w.1.1.1 W true A o env h σ H _ R (Post.sub (q2 := puo pf lo && puo pf hi) R.toRelH x (fun z => by simp only [pu, Bool.and_eq_true] at z; simp [z]) fun d o1 h1 H1 e1 R1 S1 P1 x1 v rv => ?_)
    refine sO SO lo w.1.1.2 W A o1 env h1 σ H1 _ R1 (Post.sub (q2 := puo pf hi) R1.toRelH x1 (fun z => by simpa using z) fun d2 o2 h2 H2 e2 R2 S2 P2 x2 => ?_)
    refine sO SO hi w.1.2 W A o2 env h2 σ H2 _ R2 (Post.sub (q2 := true) R2.toRelH x2 (fun z => ⟨z, rfl⟩) fun d3 o3 h3 H3 e3 R3 S3 P3 x3 => ?_)
    obtain ⟨z, ez, k⟩ := fin_ok R3 x3
    have w2 := w.2
    have pz : (true && bor a) = true → puo pf lo = true ∧ puo pf hi = true := fun hb => by
      simp only [Bool.or_eq_true, Bool.not_eq_true', Bool.and_eq_true] at w2
      rcases w2 with w2 | w2
      · simp_all
      · exact w2
    have rv' := (rv.keep S2 fun hb => P2 (pz hb).1).keep S3 fun hb => P3 (pz hb).2
    rw [SO.K]
    exact rslc_ok (fr_of R3.toRelH) ez rv'.top fun H' u s r => k H' u s (RpB.of r)
  | .fld c j a => ofE (fun W => by rw [wp]) fun w W b A o env h σ H Q R x => by
    rw [wp]
    rw [ev] at x
    simp only [wf] at w
    refine (sE SO a).1 w W false A o env h σ H _ R (Post.sub (q2 := true) R.toRelH x (fun z => ⟨z, rfl⟩) fun d o1 h1 H1 e1 R1 S1 P1 x1 v rv => ?_)
    obtain ⟨z, ez, k⟩ := fin_ok R1 x1
    obtain ⟨ad, dx, gs, u, rfl, q1, q2, q3, q4⟩ := fld_ok R1.toRelH ez rv.val
    rw [SO.nm] at q2 q3
    rw [SO.ca] at q1
    obtain ⟨f1, f2⟩ := SO.fld c j q2
    refine ⟨ad, _, dx, gs, u, rfl, q1, f1, f2, q3, k _ _ (Same.refl _) (by simpa [bor] using q4)⟩
  | .call g es => ofE (fun W => by rw [wp]) fun w W b A o env h σ H Q R x => by
    rw [wp]
    rw [ev] at x
    simp only [wf] at w
    refine sEs SO es w W false A o env h σ H _ (fun z => nomatch z) R (Post.sub (q2 := pf g) R.toRelH x (fun z => by simp only [pu, Bool.and_eq_true] at z; exact ⟨z.2, z.1⟩) fun ds o1 h1 H1 e1 R1 S1 P1 x1 hl vs rv => ?_)
    refine call_core SO R1 (rv.val.append (SO.dv g es.len _ _ _ _)) ?_
    revert x1
    cases S.call g (ds ++ S.dv g es.len) h1 with
    | ok d h2 => exact fun x1 o2 H2 v R2 S2 P2 r2 => x1 o2 H2 R2 S2 P2 v (by simpa [bor] using view_ok R2.toRelH r2)
    | exc c p e h2 => exact fun x1 => x1
    | bad => exact fun x1 => x1
  | .meth g ob es => ofE (fun W => by rw [wp]) fun w W b A o env h σ H Q R x => by
    rw [wp]
    rw [ev] at x
    simp only [wf, Bool.and_eq_true] at w
    refine (sE SO ob).1 w.1 W false A o env h σ H _ R (Post.sub (q2 := pf g && pus pf es) R.toRelH x (fun z => by simp only [pu, Bool.and_eq_true] at z; simp [z]) fun d o1 h1 H1 e1 R1 S1 P1 x1 v rv => ?_)
    split at x1
    · rename_i hc
      obtain ⟨c, ec⟩ := Option.isSome_iff_exists.mp hc.2
      obtain ⟨ad, dx, gs, rfl, q1, q2⟩ := cls_ok R1.toRelH (hc.1.trans ec) rv.val
      rw [SO.cls] at ec
      rw [SO.ca] at q1
      rw [SO.nm] at q2
      refine ⟨ad, dx, gs, rfl, by rw [ec]; exact q1, q2 _ (SO.mnm g c ec), ?_⟩
      refine sEs SO es w.2 W false A o1 env h1 σ H1 _ (fun z => nomatch z) R1 (Post.sub (q2 := pf g) R1.toRelH x1 (fun z => by simp only [Bool.and_eq_true] at z; exact ⟨z.2, z.1⟩) fun ds o2 h2 H2 e2 R2 S2 P2 x2 hl vs rs => ?_)
      refine call_core SO R2 (Rps.cons (rv.val.stay S2.stay) (rs.val.append (SO.dv g (es.len + 1) _ _ _ _))) ?_
      revert x2
      cases S.call g (d :: (ds ++ S.dv g (es.len + 1))) h2 with
      | ok d h3 => exact fun x2 o3 H3 v R3 S3 P3 r3 => x2 o3 H3 R3 S3 P3 v (by simpa [bor] using view_ok R3.toRelH r3)
      | exc c p e h2 => exact fun x1 => x1
      | bad => exact fun x1 => x1
    · exact x1.elim
  | .new c es fz => ofE (fun W => by rw [wp]) fun w W b A o env h σ H Q R x => by
    rw [wp]
    rw [ev] at x
    simp only [wf] at w
    refine sEs SO es w W false A o env h σ H _ (fun z => nomatch z) R (Post.sub (q2 := false) R.toRelH x (fun z => by simp [pu] at z) fun ds o1 h1 H1 e1 R1 S1 P1 x1 hl vs rv xa dx hx hd hne => ?_)
    obtain ⟨Rn, Sn⟩ := new_rel R1 (c := c) hx hd hne
    have en : MObj.ins c (List.replicate (S.nf c) .un) = emptyIns P c := by unfold emptyIns; rw [SO.nf, SO.nm]
    rw [en, SO.init] at x1
    rw [← SO.ca]
    have rself : Rp P (UU A (setO o1 (.ob h1.length) (some xa))) (rho (setO o1 (.ob h1.length) (some xa))) (h1 ++ [emptyIns P c]).length (upd (upd H1 dx (.own xa)) xa (.ins (P.ca c) dx [])) (.ref h1.length) (.ref xa) := by
      unfold Rp
      refine ⟨by simp, ?_⟩
      unfold rho
      rw [setO_same]
      rfl
    refine call_core SO Rn (Rps.cons rself ((rv.val.stay Sn.stay).append (SO.dv _ (es.len + 1) _ _ _ _))) ?_
    revert x1
    cases S.call (Γ.cl c).init (.ref h1.length :: (ds ++ S.dv (Γ.cl c).init (es.len + 1))) (h1 ++ [emptyIns P c]) with
    | ok d h2 =>
      intro x1 o2 H2 v R2 S2 P2 r2
      cases d
      case non =>
        refine ⟨by simpa [Rp] using r2, ?_⟩
        have S02 := Stp.trans R1.toRelH Sn S2
        have hlt : h1.length < h2.length := Nat.lt_of_lt_of_le (by simp) S2.len
        have eob : o2 (.ob h1.length) = some xa := (S2.ob h1.length (by simp)).trans setO_same
        cases fz with
        | false =>
          refine x1 o2 H2 R2 S02 (fun z => nomatch z) _ (RpB.of ?_)
          unfold Rp
          refine ⟨hlt, ?_⟩
          unfold rho
          rw [eob]
          rfl
        | true =>
          have y1 : Post P W A o1 env h1 σ H1 false (freeze h1 c h2) (GE P A Q (b && bor (.new c es true))) := x1
          unfold freeze at y1
          split at y1
          · rename_i c' fs ef
            split at y1
            · rename_i hc
              obtain ⟨rfl, eh, low⟩ := hc
              subst eh
              obtain ⟨R3, S3, r3⟩ := freeze_ok R1 R2 S02 eob low
              exact y1 _ _ R3 S3 (fun z => nomatch z) _ (RpB.of r3)
            · exact y1.elim
          · exact y1.elim
      all_goals exact x1.elim
    | exc c p e h2 => exact fun x1 o2 H2 cls dd R2 S2 E2 => x1 o2 H2 cls dd R2 (Stp.trans R1.toRelH Sn S2) E2
    | bad => exact fun x1 => x1
  | .bi bb es => ofE (fun W => by rw [wp]) fun w W b A o env h σ H Q R x => by
    rw [wp]
    rw [ev] at x
    simp only [wf, Bool.and_eq_true] at w
    refine sEs SO es w.1 W true A o env h σ H _ (fun _ => w.2) R (Post.sub (q2 := true) R.toRelH x (fun z => ⟨z, rfl⟩) fun ds o1 h1 H1 e1 R1 S1 P1 x1 hl vs rv => ?_)
    obtain ⟨z, ez, k⟩ := fin_ok R1 x1
    rw [SO.K]
    exact rbi_ok (fr_of R1.toRelH) ez rv.tops fun H' u s r => k H' u s (RpB.of r)
  | .bm m ob es => by
    have bad : ∀ {G : D → (Loc → Option Addr) → MH → Hp → Prop} {q W A o env h σ H b}, m ≠ .get1 → m ≠ .get2 → Post P W A o env h σ H q (ev S (.bm m ob es) b env h) G → False := by
      intro G q W A o env h σ H b h1 h2 x
      cases m <;> first | exact (h1 rfl).elim | exact (h2 rfl).elim | exact x
    cases m
    case get1 =>
      refine ofE (fun W => by rw [wp]) fun w W b A o env h σ H Q R x => ?_
      rw [wp]
      rw [ev] at x
      simp only [wf, Bool.and_eq_true, decide_eq_true_eq] at w
      obtain ⟨⟨⟨w1, w2⟩, w3⟩, w4⟩ := w
      cases es with
      | nil => simp [Es.len, bmN] at w4
      | cons a r =>
        cases r with
        | cons _ _ => simp [Es.len, bmN] at w4
        | nil =>
          rw [wpl, wpl]
          simp only [wfs, Bool.and_eq_true] at w2
          refine (sE SO ob).1 w1 W true A o env h σ H _ R (Post.sub (q2 := pus pf (.cons a .nil)) R.toRelH x (fun z => by simpa [pu] using z) fun d o1 h1 H1 e1 R1 S1 P1 x1 v rv => ?_)
          split at x1
          · rename_i kvs
            obtain ⟨ad, ws, rfl, q1, q2⟩ := rv.top.dic
            have isd : IsD H1 ad := by
              rcases q1 with ⟨l, e, _⟩ | ⟨l, _, e, _⟩
              · exact .inl ⟨l, .inl e⟩
              · exact .inr ⟨l, .inl e⟩
            refine ⟨ad, rfl, isd, ?_⟩
            simp only [evs] at x1
            refine (sE SO a).1 w2.1 W false A o1 env h1 σ H1 _ R1 (Post.sub (q1 := pu pf a) (q2 := true) R1.toRelH (q := pu pf a) (f := fun d h2 => ofO ((d.key.bind fun k => if KK.flat k && kinds true kvs then some ((kget kvs k).getD .non) else none).map (view h2 b)) h2) (G := GE P A Q (b && bor (.bm .get1 ob (.cons a .nil)))) ?_ (fun z => ⟨z, rfl⟩) fun d2 o2 h2 H2 e2 R2 S2 P2 x2 u ru => ?_)
            · have pq : pus pf (.cons a .nil) = pu pf a := by simp [pus]
              rw [pq] at x1
              cases hh : ev S a false env h1 with
              | ok d2 h2 => rw [hh] at x1; exact x1
              | exc c p e h2 => rw [hh] at x1; exact x1
              | bad => rw [hh] at x1; exact x1
            · obtain ⟨z, ez, k⟩ := fin_ok R2 x2
              obtain ⟨z', ez2, rfl⟩ := Option.map_eq_some_iff.mp ez
              obtain ⟨kk, ek, ez3⟩ := Option.bind_eq_some_iff.mp ez2
              split at ez3
              · rename_i hc
                cases ez3
                have rv' := rv.keep S2 fun hb => P2 (by simp only [pus, Bool.and_eq_true] at w3; exact w3.1)
                obtain ⟨ad', r, ea, _, g1, g2⟩ := dget_ok rv'.top ru.top ek hc
                cases ea
                refine ⟨r, g1, ?_⟩
                rcases g2 with ⟨g2, g3⟩ | ⟨d5, u5, g2, g3, g4⟩
                · rw [g3]
                  refine k _ _ (Same.refl _) (by rw [g2]; simpa [bor] using view_ok R2.toRelH (d := .non) Rp.mkNon)
                · rw [g3]
                  refine k _ _ (Same.refl _) (by rw [g2]; simpa [bor] using view_ok R2.toRelH g4)
              · cases ez3
          · exact x1.elim
    case get2 =>
      refine ofE (fun W => by rw [wp]) fun w W b A o env h σ H Q R x => ?_
      rw [wp]
      rw [ev] at x
      simp only [wf, Bool.and_eq_true, decide_eq_true_eq] at w
      obtain ⟨⟨⟨w1, w2⟩, w3⟩, w4⟩ := w
      cases es with
      | nil => simp [Es.len, bmN] at w4
      | cons a r =>
        cases r with
        | nil => simp [Es.len, bmN] at w4
        | cons c r => cases r with
          | cons _ _ => simp [Es.len, bmN] at w4
          | nil =>
          rw [wpl, wpl, wpl]
          simp only [wfs, Bool.and_eq_true] at w2
          simp only [pus, Bool.and_eq_true] at w3
          refine (sE SO ob).1 w1 W true A o env h σ H _ R (Post.sub (q2 := pus pf (.cons a (.cons c .nil))) R.toRelH x (fun z => by simpa [pu] using z) fun d o1 h1 H1 e1 R1 S1 P1 x1 v rv => ?_)
          split at x1
          · rename_i kvs
            obtain ⟨ad, ws, rfl, q1, q2⟩ := rv.top.dic
            have isd : IsD H1 ad := by
              rcases q1 with ⟨l, e, _⟩ | ⟨l, _, e, _⟩
              · exact .inl ⟨l, .inl e⟩
              · exact .inr ⟨l, .inl e⟩
            refine ⟨ad, rfl, isd, ?_⟩
            simp only [evs] at x1
            have pq : pus pf (.cons a (.cons c .nil)) = true := by simp [pus, w3]
            rw [pq] at x1
            have x1' : Post P W A o1 env h1 σ H1 true ((ev S a false env h1).bind fun d h2 => (ev S c false env h2).bind fun e h3 => ofO ((d.key.bind fun k => if KK.flat k && kinds true kvs then some ((kget kvs k).getD e) else none).map (view h3 b)) h3) (GE P A Q (b && bor (.bm .get2 ob (.cons a (.cons c .nil))))) := by
              cases hh : ev S a false env h1 with
              | ok d2 h2 =>
                rw [hh] at x1
                have x2 := x1
                simp only [Out.bind] at x2 ⊢
                cases h3 : ev S c false env h2 with
                | ok d3 h3 => rw [h3] at x2; exact x2
                | exc c p e h3 => rw [h3] at x2; exact x2
                | bad => rw [h3] at x2; exact x2
              | exc c p e h2 => rw [hh] at x1; exact x1
              | bad => rw [hh] at x1; exact x1
            refine (sE SO a).1 w2.1 W false A o1 env h1 σ H1 _ R1 (Post.imp (Post.sub (q1 := true) (q2 := true) R1.toRelH x1' (fun z => ⟨rfl, rfl⟩) fun d2 o2 h2 H2 e2 R2 S2 P2 x2 u ru => ?_) (fun _ => w3.1) fun _ _ _ _ _ _ _ _ g => g)
            refine (sE SO c).1 w2.2.1 W false A o2 env h2 σ H2 _ R2 (Post.imp (Post.sub (q1 := true) (q2 := true) R2.toRelH x2 (fun z => ⟨rfl, rfl⟩) fun d3 o3 h3 H3 e3 R3 S3 P3 x3 u3 ru3 => ?_) (fun _ => w3.2.1) fun _ _ _ _ _ _ _ _ g => g)
            obtain ⟨z, ez, k⟩ := fin_ok R3 x3
            obtain ⟨z', ez2, rfl⟩ := Option.map_eq_some_iff.mp ez
            obtain ⟨kk, ek, ez3⟩ := Option.bind_eq_some_iff.mp ez2
            split at ez3
            · rename_i hc
              cases ez3
              have rv' := (rv.keep S2 fun hb => P2 rfl).keep S3 fun hb => P3 rfl
              obtain ⟨ad', r, ea, _, g1, g2⟩ := dget_ok rv'.top (ru.val.stay S3.stay).top ek hc
              cases ea
              refine ⟨r, g1, ?_⟩
              rcases g2 with ⟨g2, g3⟩ | ⟨d5, u5, g2, g3, g4⟩
              · rw [g3]
                refine k _ _ (Same.refl _) (by rw [g2]; simpa [bor] using view_ok R3.toRelH ru3.val)
              · rw [g3]
                refine k _ _ (Same.refl _) (by rw [g2]; simpa [bor] using view_ok R3.toRelH g4)
            · cases ez3
          · exact x1.elim
    all_goals
      exact ⟨fun w W b A o env h σ H Q R x => (bad (fun z => Bm.noConfusion z) (fun z => Bm.noConfusion z) x).elim, fun w W A o env h σ H Q R x => (bad (fun z => Bm.noConfusion z) (fun z => Bm.noConfusion z) x).elim⟩
  | .rng tl a => ofE (fun W => by rw [wp]) fun w W b A o env h σ H Q R x => by
    rw [wp]
    rw [ev] at x
    simp only [wf] at w
    have main : ∀ (G : Int → Hp → Prop), (∀ n o1 h1 H1, Rel P A o1 env h1 σ H1 → RgOk 0 n → Post P W A o1 env h1 σ H1 true (.ok (if tl then D.tup (rngD 0 n.toNat) else .lst (rngD 0 n.toNat)) h1) (GE P A Q (b && bor (.rng tl a))) → G n H1) → (wp Γ M a W).e σ H fun v H1 => ∃ n, v = .int n ∧ G n H1 := by
      intro G k
      refine (sE SO a).1 w W true A o env h σ H _ R (Post.sub (q2 := true) R.toRelH x (fun z => ⟨z, rfl⟩) fun d o1 h1 H1 e1 R1 S1 P1 x1 v rv => ?_)
      split at x1
      · rename_i n
        split at x1
        · rename_i hn
          exact ⟨n, rv.top.int, k n o1 h1 H1 R1 ⟨by omega, by omega, by omega, by omega, by omega⟩ x1⟩
        · exact x1.elim
      · exact x1.elim
    have rr : ∀ {U : Addr → Prop} {ρ : Nat → Addr} {k : Nat} {H : Hp} (n : Int), Rps P U ρ k H (rngD 0 n.toNat) (rgV 0 n) := fun {U ρ k H} n => by
      have e1 : rngD 0 n.toNat = ((List.range n.toNat).map fun i => (0 : Int) + (i : Nat)).map .int := by simp [rngD, Function.comp_def]
      have e2 : rgV 0 n = ((List.range n.toNat).map fun i => (0 : Int) + (i : Nat)).map .int := by simp [rgV, Function.comp_def]
      rw [e1, e2]
      exact Rps.ints _
    cases tl with
    | true => exact main (fun n H1 => RgOk 0 n ∧ ∀ q, H1 q = none → Q (.ref q) (upd H1 q (.tup (rgV 0 n)))) fun n o1 h1 H1 R1 ok x1 => ⟨ok, fun q hq => ge_fin x1 R1 (same_upd hq) (Rp.newT (fr_of R1.toRelH) hq (rr n))⟩
    | false => exact main (fun n H1 => RgOk 0 n ∧ ∀ q, H1 q = none → Q (.ref q) (upd H1 q (.lst (rgV 0 n)))) fun n o1 h1 H1 R1 ok x1 => ⟨ok, fun q hq => ge_fin x1 R1 (same_upd hq) (Rp.newL (fr_of R1.toRelH) hq (rr n))⟩
  | .comp e t it c own => ofE (fun W => by rw [wp]) fun w W b A o env h σ H Q R x => by
    rw [wp]
    rw [ev] at x
    simp only [wf, Bool.and_eq_true] at w
    obtain ⟨⟨⟨⟨w1, w2⟩, w3⟩, w4⟩, w5⟩ := w
    refine sI SO it w2 W true A o env h σ H _ R (Post.sub (q2 := pu pf e && puo pf c) R.toRelH x (fun z => by simp only [pu, Bool.and_eq_true] at z; simp [z]) fun ds o1 h1 H1 e1 R1 S1 P1 x1 J its D hD => ?_)
    split at x1
    · rename_i hl
      obtain ⟨y, h2, ey, x2⟩ := noX_ok x1
      obtain ⟨ys, h2', ey, e2⟩ := bind_ok ey
      cases e2
      refine comp_ok SO (sE SO e).1 (sC SO c) w1 w3 w4 its (fun z => ?_) R1 hl ey hD fun o' H' vs nD R' S' P' r => x2 o' _ (R'.same (same_upd nD)) (Stp.trans R1.toRelH S' (Stp.same R'.toRelH (same_upd nD))) (fun z => (P' z).trans (Pure.same (same_upd nD))) _ (RpB.of (Rp.newL (fr_of R'.toRelH) nD r))
      simp only [Bool.true_and] at z
      simp only [z, Bool.not_true, Bool.false_or] at w5
      exact w5
    · exact x1.elim
theorem sEs (SO : SmOk P Γ M S pf) : ∀ es : Es, SimEs P Γ M S pf es
  | .nil => fun w W b A o env h σ H Q hb R x => by
    rw [wps]
    rw [evs] at x
    exact Post.done x R (Same.refl H) rfl [] RpBs.nil
  | .cons e r => fun w W b A o env h σ H Q hb R x => by
    rw [wps]
    rw [evs] at x
    simp only [wfs, Bool.and_eq_true] at w
    refine (sE SO e).1 w.1 W b A o env h σ H _ R (Post.sub (q2 := pus pf r) R.toRelH x (fun z => by simpa [pus] using z) fun d o1 h1 H1 e1 R1 S1 P1 x1 v rv => ?_)
    refine sEs SO r w.2 W b A o1 env h1 σ H1 _ (fun z => okT_of (hb z)) R1 (Post.sub (q2 := true) R1.toRelH x1 (fun z => ⟨z, rfl⟩) fun ds o2 h2 H2 e2 R2 S2 P2 x2 hl vs rs => ?_)
    have rv' := (rv.mono (c := b) fun z => by simp only [Bool.and_eq_true] at z; exact z.1).keep S2 fun z => P2 (hb z)
    exact Post.done x2 R2 (Same.refl H2) (by rw [List.length_cons, hl]; rfl) _ (RpBs.cons rv' rs)
theorem sAnd (SO : SmOk P Γ M S pf) : ∀ es : Es, SimAnd P Γ M S pf es
  | .nil => fun w W A o env h σ H R => by
    refine ⟨fun Q b x => ?_, fun Q x => ?_⟩
    · rw [evAnd] at x
      exact x.elim
    · rw [evAnd] at x
      exact x.elim
  | .cons e .nil => fun w W A o env h σ H R => by
    simp only [wfs, Bool.and_eq_true] at w
    refine ⟨fun Q b x => ?_, fun Q x => ?_⟩
    · rw [evAnd] at x
      rw [wpAnd]
      refine (sE SO e).1 w.1 W true A o env h σ H _ R (Post.sub (q2 := true) R.toRelH x (fun z => by simpa [pus] using z) fun d o1 h1 H1 e1 R1 S1 P1 x1 v rv => ?_)
      split at x1
      · rw [rv.top.bl]
        exact ge_fin x1 R1 (Same.refl _) (Rp.mkBl _)
      · exact x1.elim
    · rw [evAnd] at x
      rw [wpAnd]
      refine (sE SO e).2 w.1 W A o env h σ H _ R (Post.sub (q2 := true) R.toRelH x (fun z => by simpa [pus] using z) fun d o1 h1 H1 e1 R1 S1 P1 x1 => ?_)
      split at x1
      · exact ⟨_, rfl, gt_fin x1 R1⟩
      · exact x1.elim
  | .cons e (.cons e2 r) => fun w W A o env h σ H R => by
    simp only [wfs, Bool.and_eq_true] at w
    refine ⟨fun Q b x => ?_, fun Q x => ?_⟩
    · rw [evAnd] at x
      rw [wpAnd]
      any_goals exact fun z => Es.noConfusion z
      refine (sE SO e).1 w.1 W true A o env h σ H _ R (Post.sub (q2 := pus pf (.cons e2 r)) R.toRelH x (fun z => by simpa [pus] using z) fun d o1 h1 H1 e1 R1 S1 P1 x1 v rv => ?_)
      split at x1
      · rename_i c
        refine ⟨c, rv.top.bl, ?_⟩
        cases c with
        | true => exact (sAnd SO (.cons e2 r) (by simp [wfs, w.2]) W A o1 env h1 σ H1 R1).1 Q b x1
        | false => exact ge_fin x1 R1 (Same.refl _) (Rp.mkBl _)
      · exact x1.elim
    · rw [evAnd] at x
      rw [wpAnd]
      any_goals exact fun z => Es.noConfusion z
      refine (sE SO e).2 w.1 W A o env h σ H _ R (Post.sub (q2 := pus pf (.cons e2 r)) R.toRelH x (fun z => by simpa [pus] using z) fun d o1 h1 H1 e1 R1 S1 P1 x1 => ?_)
      split at x1
      · rename_i c
        refine ⟨c, rfl, ?_⟩
        cases c with
        | true => exact (sAnd SO (.cons e2 r) (by simp [wfs, w.2]) W A o1 env h1 σ H1 R1).2 Q x1
        | false => exact gt_fin x1 R1
      · exact x1.elim
theorem sOr (SO : SmOk P Γ M S pf) : ∀ es : Es, SimOr P Γ M S pf es
  | .nil => fun w W A o env h σ H R => by
    refine ⟨fun Q b x => ?_, fun Q x => ?_⟩
    · rw [evOr] at x
      exact x.elim
    · rw [evOr] at x
      exact x.elim
  | .cons e .nil => fun w W A o env h σ H R => by
    simp only [wfs, Bool.and_eq_true] at w
    refine ⟨fun Q b x => ?_, fun Q x => ?_⟩
    · rw [evOr] at x
      rw [wpOr]
      refine (sE SO e).1 w.1 W true A o env h σ H _ R (Post.sub (q2 := true) R.toRelH x (fun z => by simpa [pus] using z) fun d o1 h1 H1 e1 R1 S1 P1 x1 v rv => ?_)
      split at x1
      · rw [rv.top.bl]
        exact ge_fin x1 R1 (Same.refl _) (Rp.mkBl _)
      · exact x1.elim
    · rw [evOr] at x
      rw [wpOr]
      refine (sE SO e).2 w.1 W A o env h σ H _ R (Post.sub (q2 := true) R.toRelH x (fun z => by simpa [pus] using z) fun d o1 h1 H1 e1 R1 S1 P1 x1 => ?_)
      split at x1
      · exact ⟨_, rfl, gt_fin x1 R1⟩
      · exact x1.elim
  | .cons e (.cons e2 r) => fun w W A o env h σ H R => by
    simp only [wfs, Bool.and_eq_true] at w
    refine ⟨fun Q b x => ?_, fun Q x => ?_⟩
    · rw [evOr] at x
      rw [wpOr]
      any_goals exact fun z => Es.noConfusion z
      refine (sE SO e).1 w.1 W true A o env h σ H _ R (Post.sub (q2 := pus pf (.cons e2 r)) R.toRelH x (fun z => by simpa [pus] using z) fun d o1 h1 H1 e1 R1 S1 P1 x1 v rv => ?_)
      split at x1
      · rename_i c
        refine ⟨c, rv.top.bl, ?_⟩
        cases c with
        | false => exact (sOr SO (.cons e2 r) (by simp [wfs, w.2]) W A o1 env h1 σ H1 R1).1 Q b x1
        | true => exact ge_fin x1 R1 (Same.refl _) (Rp.mkBl _)
      · exact x1.elim
    · rw [evOr] at x
      rw [wpOr]
      any_goals exact fun z => Es.noConfusion z
      refine (sE SO e).2 w.1 W A o env h σ H _ R (Post.sub (q2 := pus pf (.cons e2 r)) R.toRelH x (fun z => by simpa [pus] using z) fun d o1 h1 H1 e1 R1 S1 P1 x1 => ?_)
      split at x1
      · rename_i c
        refine ⟨c, rfl, ?_⟩
        cases c with
        | false => exact (sOr SO (.cons e2 r) (by simp [wfs, w.2]) W A o1 env h1 σ H1 R1).2 Q x1
        | true => exact gt_fin x1 R1
      · exact x1.elim
theorem sPs (SO : SmOk P Γ M S pf) : ∀ ps : Ps, SimPs P Γ M S pf ps
  | .nil => fun w W A o env h σ H Q R x => by
    rw [wpp]
    rw [evp] at x
    exact Post.done x R (Same.refl H) [] Rkv.nil rfl
  | .cons k v r => fun w W A o env h σ H Q R x => by
    rw [wpp]
    rw [evp] at x
    simp only [wfp, Bool.and_eq_true] at w
    refine (sE SO k).1 w.1.1 W false A o env h σ H _ R (Post.sub (q2 := pu pf v && pup pf r) R.toRelH x (fun z => by simp only [pup, Bool.and_eq_true] at z; simp [z]) fun d o1 h1 H1 e1 R1 S1 P1 x1 u ru => ?_)
    refine (sE SO v).1 w.1.2 W false A o1 env h1 σ H1 _ R1 (Post.sub (q2 := pup pf r) R1.toRelH x1 (fun z => by simpa using z) fun d2 o2 h2 H2 e2 R2 S2 P2 x2 u2 ru2 => ?_)
    refine sPs SO r w.2 W A o2 env h2 σ H2 _ R2 (Post.sub (q2 := true) R2.toRelH x2 (fun z => ⟨z, rfl⟩) fun t o3 h3 H3 e3 R3 S3 P3 x3 l rl hl => ?_)
    split at x3
    · rename_i q eq
      have eu : u = kV q := key0_of eq ru.val
      subst eu
      exact Post.done x3 R3 (Same.refl _) ((q, u2) :: l) (Rkv.cons (ru2.val.stay S3.stay) rl) (by rw [List.length_cons, hl]; rfl)
    · exact x3.elim
theorem sO (SO : SmOk P Γ M S pf) : ∀ c : O, SimO P Γ M S pf c
  | .no => fun w W A o env h σ H Q R x => by
    rw [wpo]
    rw [evo] at x
    exact Post.done x R (Same.refl H)
  | .yes e => fun w W A o env h σ H Q R x => by
    rw [wpo]
    rw [evo] at x
    refine (sE SO e).1 (by simpa [wfo] using w) W true A o env h σ H _ R (Post.sub (q2 := true) R.toRelH x (fun z => ⟨z, rfl⟩) fun d o1 h1 H1 e1 R1 S1 P1 x1 v rv => ?_)
    split at x1
    · exact ⟨_, rv.top.int, Post.done x1 R1 (Same.refl _)⟩
    · exact x1.elim
theorem sC (SO : SmOk P Γ M S pf) : ∀ c : O, SimC P Γ M S pf c
  | .no => fun w W A o env h σ H Q R x => by
    rw [wpc]
    rw [evc] at x
    exact Post.done x R (Same.refl H)
  | .yes e => fun w W A o env h σ H Q R x => by
    rw [wpc]
    rw [evc] at x
    refine (sE SO e).2 (by simpa [wfo] using w) W A o env h σ H _ R (Post.sub (q2 := true) R.toRelH x (fun z => ⟨z, rfl⟩) fun d o1 h1 H1 e1 R1 S1 P1 x1 => ?_)
    split at x1
    · exact ⟨_, rfl, Post.done x1 R1 (Same.refl _)⟩
    · exact x1.elim
theorem sI (SO : SmOk P Γ M S pf) : ∀ c : I, SimI P Γ M S pf c
  | .val e => fun w W b A o env h σ H Rq R x => by
    rw [wpI]
    rw [evI] at x
    simp only [wfI] at w
    have x0 := Post.sub (G' := fun d o1 h1 H1 => ∀ v, RpB P (b && bor e) (UU A o1) (rho o1) h1.length H1 d v → ∃ ad, v = .ref ad ∧ (d.isTup = false → (∃ xs, SqL M.K H1 ad xs) ∧ Rq (Itl M.K ad) H1) ∧ (d.isTup = true → (∃ xs, SqT M.K H1 ad xs) ∧ Rq (Itt M.K ad) H1)) (q1 := pu pf e) (q2 := true) R.toRelH x (fun z => ⟨z, rfl⟩) fun d o1 h1 H1 e1 R1 S1 P1 x1 v rv => by
      obtain ⟨ds, ed, k⟩ := Post.ofO x1 R1
      rw [SO.K]
      cases d <;> first | (cases ed; done) | cases ed
      · obtain ⟨ad, vs, rfl, q1, q2⟩ := tup_st rv
        exact ⟨ad, rfl, fun z => (nomatch z), fun _ => ⟨⟨vs, q2.now⟩, k _ (Same.refl _) _ (its_tup q1 q2)⟩⟩
      · obtain ⟨ad, vs, rfl, q1, q2⟩ := lst_st rv
        exact ⟨ad, rfl, fun _ => ⟨⟨vs, q2.now⟩, k _ (Same.refl _) _ (its_list q1 q2)⟩, fun z => nomatch z⟩
      · obtain ⟨ad, vs, rfl, q1, q2⟩ := rol_st rv
        exact ⟨ad, rfl, fun _ => ⟨⟨vs, q2.now⟩, k _ (Same.refl _) _ (its_list q1 q2)⟩, fun z => nomatch z⟩
    by_cases c : ∃ kvs h1, ev S e b env h = .ok (.tup kvs) h1
    · refine .inr ((sE SO e).1 w W b A o env h σ H _ R (Post.imp x0 id fun d o1 h1 H1 e1 R1 S1 P1 g v rv => ?_))
      obtain ⟨kvs, h1', ec⟩ := c
      rw [ec] at e1
      cases e1
      obtain ⟨ad, e1, _, g2⟩ := g v rv
      exact ⟨ad, e1, g2 rfl⟩
    · refine .inl ((sE SO e).1 w W b A o env h σ H _ R (Post.imp x0 id fun d o1 h1 H1 e1 R1 S1 P1 g v rv => ?_))
      have nd : d.isTup = false := by
        cases d <;> first | rfl | exact (c ⟨_, _, e1⟩).elim
      obtain ⟨ad, e1, g2, _⟩ := g v rv
      exact ⟨ad, e1, g2 nd⟩
  | .rng1 a => fun w W b A o env h σ H Rq R x => by
    rw [wpI]
    rw [evI] at x
    simp only [wfI] at w
    refine (sE SO a).1 w W true A o env h σ H _ R (Post.sub (q2 := true) R.toRelH x (fun z => ⟨z, rfl⟩) fun d o1 h1 H1 e1 R1 S1 P1 x1 v rv => ?_)
    split at x1
    · rename_i n
      split at x1
      · rename_i hn
        exact ⟨n, by rw [rv.top.int], by omega, by omega, Post.done x1 R1 (Same.refl _) _ its_rng⟩
      · exact x1.elim
    · exact x1.elim
  | .rng2 a c => fun w W b A o env h σ H Rq R x => by
    rw [wpI]
    rw [evI] at x
    simp only [wfI, Bool.and_eq_true] at w
    refine (sE SO a).1 w.1 W true A o env h σ H _ R (Post.sub (q2 := pu pf c) R.toRelH x (fun z => by simpa [puI] using z) fun d o1 h1 H1 e1 R1 S1 P1 x1 v rv => ?_)
    refine (sE SO c).1 w.2 W true A o1 env h1 σ H1 _ R1 (Post.sub (q2 := true) R1.toRelH x1 (fun z => ⟨z, rfl⟩) fun d2 o2 h2 H2 e2 R2 S2 P2 x2 v2 rv2 => ?_)
    split at x2
    · rename_i n m
      split at x2
      · rename_i hn
        have e1 : v = .int n := by
          have := rv.top.int
          exact this
        exact ⟨n, m, by rw [e1, rv2.top.int], ⟨by omega, by omega, by omega, by omega⟩, Post.done x2 R2 (Same.refl _) _ its_rng⟩
      · exact x2.elim
    · exact x2.elim
  | .enum e => fun w W b A o env h σ H Rq R x => by
    rw [wpI]
    rw [evI] at x
    simp only [wfI] at w
    refine (sE SO e).1 w W b A o env h σ H _ R (Post.sub (q2 := true) R.toRelH x (fun z => ⟨z, rfl⟩) fun d o1 h1 H1 e1 R1 S1 P1 x1 v rv => ?_)
    rw [SO.K]
    split at x1
    · obtain ⟨ad, vs, rfl, q1, q2⟩ := lst_st rv
      exact ⟨ad, vs, rfl, q2.now, Post.done x1 R1 (Same.refl _) _ (its_enum q1 q2)⟩
    · obtain ⟨ad, vs, rfl, q1, q2⟩ := rol_st rv
      exact ⟨ad, vs, rfl, q2.now, Post.done x1 R1 (Same.refl _) _ (its_enum q1 q2)⟩
    · exact x1.elim
  | .zip a c => fun w W b A o env h σ H Rq R x => by
    rw [wpI]
    rw [evI] at x
    simp only [wfI, Bool.and_eq_true] at w
    refine (sE SO a).1 w.1.1 W b A o env h σ H _ R (Post.sub (q2 := pu pf c) R.toRelH x (fun z => by simpa [puI] using z) fun d o1 h1 H1 e1 R1 S1 P1 x1 v rv => ?_)
    refine (sE SO c).1 w.1.2 W b A o1 env h1 σ H1 _ R1 (Post.sub (q2 := true) R1.toRelH x1 (fun z => ⟨z, rfl⟩) fun d2 o2 h2 H2 e2 R2 S2 P2 x2 v2 rv2 => ?_)
    have w2 := w.2
    have rv' := rv.keep S2 fun hb => P2 (by simp only [ordB, Bool.or_eq_true, Bool.not_eq_true'] at w2; simp only [Bool.and_eq_true] at hb; rcases w2 with w2 | w2 <;> simp_all)
    have b1 : (b && bor a) = true → (b && borI (.zip a c)) = true := fun z => by simp only [Bool.and_eq_true] at z; simp [borI, z]
    have b2 : (b && bor c) = true → (b && borI (.zip a c)) = true := fun z => by simp only [Bool.and_eq_true] at z; simp [borI, z]
    rw [SO.K]
    split at x2
    · obtain ⟨ad, vs, rfl, q1, q2⟩ := lst_st rv'
      obtain ⟨ae, ws, rfl, q3, q4⟩ := lst_st rv2
      exact ⟨ad, ae, vs, ws, rfl, .inl ⟨q2.now, q4.now, Post.done x2 R2 (Same.refl _) _ (its_zip q1 q2 q3 q4 b1 b2)⟩⟩
    · obtain ⟨ad, vs, rfl, q1, q2⟩ := tup_st rv'
      obtain ⟨ae, ws, rfl, q3, q4⟩ := tup_st rv2
      exact ⟨ad, ae, vs, ws, rfl, .inr ⟨q2.now, q4.now, Post.done x2 R2 (Same.refl _) _ (its_zipT q1 q2 q3 q4 b1 b2)⟩⟩
    · exact x2.elim
end
end
end MP

set_option Elab.async false
set_option linter.all false
set_option maxRecDepth 100000
set_option maxHeartbeats 4000000
namespace MP
open PySem PySem.Spec PyProof.Rows L2
/-- a new list, a new dict: what lies at its address -/
def CtD (P : Pm) (U : Addr → Prop) (ρ : Nat → Addr) (n : Nat) (H : Hp) (d : D) (ob : HO) : Prop := match d with
  | .lst xs => ∃ vs, ob = .lst vs ∧ Rps P U ρ n H xs vs
  | .dic kvs => ∃ l : List (Key × V), ob = .dK l ∧ Rkv P U ρ n H kvs (l.map fun p => (.inl p.1, p.2))
  | _ => False
def boxD : D → Bool
  | .lst _ => true
  | .dic _ => true
  | _ => false
/-- makes a new list or dict -/
def frs : E → Bool
  | .lst _ => true
  | .dsp _ => true
  | .comp _ _ _ _ _ => true
  | .rng tl _ => !tl
  | .bin op _ _ => decide (op = .add) || decide (op = .mul)
  | .slc _ _ _ => true
  | .bi b _ => decide (b = .list) || decide (b = .sorted) || decide (b = .dict)
  | _ => false
section
variable {P : Pm} {U : Addr → Prop} {ρ : Nat → Addr} {n : Nat} {H : Hp} {Q : VK}
theorem rbinF {op : Bop} {x y z : D} {v w : V} (e : binD op x y = some z) (bz : boxD z = true) (hx : RpT P U ρ n H x v) (hy : RpT P U ρ n H y w) (k : ∀ p ob, H p = none → CtD P U ρ n H z ob → Q (.ref p) (upd H p ob)) : rBin P.K op v w H Q := by
  unfold binD at e
  split at e
  · cases op <;> simp only [Option.some.injEq] at e <;> first | (subst e; cases bz; done) | (split at e <;> first | (cases e; done) | (cases e; cases bz))
  · split at e
    · split at e
      · cases e; cases bz
      · cases e
    · cases e
  · split at e
    · split at e
      · rename_i hl
        cases e
        obtain ⟨a, vs, rfl, h1, r1⟩ := hx.lst
        obtain ⟨b, ws, rfl, h3, r2⟩ := hy.lst
        exact .inr (.inr (.inl ⟨a, b, vs, ws, rfl, rfl, h1, h3, by rw [r1.len, r2.len]; exact lim_le hl, fun p hp => k p _ hp ⟨_, rfl, r1.append r2⟩⟩))
      · cases e
    · cases e
  · split at e
    · split at e
      · rename_i hl
        cases e
        obtain ⟨a, vs, rfl, h1, r1⟩ := hx.lst
        have e2 := hy.int
        subst e2
        exact .inr ⟨a, _, vs, rfl, rfl, h1, by omega, by omega, by rw [r1.len]; exact lim_le hl.2.2, fun p hp => k p _ hp ⟨_, rfl, r1.rep _⟩⟩
      · cases e
    · cases e
  · split at e
    · split at e
      · cases e; cases bz
      · cases e
    · cases e
  · cases e
theorem rslcF {x z : D} {v : V} {lo hi : Option Int} (e : slcD x lo hi = some z) (bz : boxD z = true) (hx : RpT P U ρ n H x v) (k : ∀ p ob, H p = none → CtD P U ρ n H z ob → Q (.ref p) (upd H p ob)) : rSl P.K v lo hi H Q := by
  unfold slcD at e
  split at e <;> first | (cases e; done) | cases e
  · cases bz
  · obtain ⟨a, vs, rfl, h1, r⟩ := hx.lst
    exact .inl ⟨a, vs, rfl, SqL.of h1, fun p hp => k p _ hp ⟨_, rfl, cut_rel lo hi r⟩⟩
  · obtain ⟨a, vs, rfl, h1, r⟩ := hx.rol
    exact .inl ⟨a, vs, rfl, h1, fun p hp => k p _ hp ⟨_, rfl, cut_rel lo hi r⟩⟩
theorem rbiF {b : Bi} {ds : List D} {z : D} {vs : List V} (hb : b = .list ∨ b = .sorted ∨ b = .dict) (e : biD b ds = some z) (r : RpTs P U ρ n H ds vs) (k : ∀ p ob, H p = none → CtD P U ρ n H z ob → Q (.ref p) (upd H p ob)) : rBi P.K b vs H Q := by
  unfold biD at e
  split at e <;> first | (rcases hb with hb | hb | hb <;> cases hb; done) | skip
  · -- sorted
    have so : ∀ {xs ys : List D} {a : Addr} {ws : List V}, sortD xs = some ys → z = .lst ys → SqL P.K H a ws → Rps P U ρ n H xs ws → rSortD P.K [.ref a] H Q := by
      intro xs ys a ws e1 ez h1 h2
      unfold sortD at e1
      split at e1
      · rename_i hc
        obtain ⟨c1, c2, c3⟩ := hc
        cases e1
        obtain ⟨_, q2⟩ := pls_ok _ _ c1
        refine ⟨a, ws, pys xs, rfl, h1, Rps.dp 60 c1 h2, c2, c3, fun d hd => ?_, fun p hp => by rw [ez] at k; exact k p _ hp ⟨_, rfl, srt_zip h2⟩⟩
        have : ∀ {ds : List PyData}, d ∈ ds → d.depth ≤ PyData.depthAll ds := by
          intro ds
          induction ds with
          | nil => intro h; simp at h
          | cons y t ih =>
            intro h
            simp only [PyData.depthAll]
            rcases List.mem_cons.mp h with rfl | h
            · omega
            · have := ih h; omega
        have := this hd
        omega
      · cases e1
    cases r with
    | cons r t =>
      cases t
      split at e
      · obtain ⟨ys, e1, ez⟩ := Option.map_eq_some_iff.mp e
        obtain ⟨a, ws, rfl, h1, h2⟩ := r.lst
        exact .inl (so e1 ez.symm (SqL.of h1) h2)
      · obtain ⟨ys, e1, ez⟩ := Option.map_eq_some_iff.mp e
        obtain ⟨a, ws, rfl, h1, h2⟩ := r.rol
        exact .inl (so e1 ez.symm h1 h2)
      · split at e
        · rename_i kvs hc
          simp only [Bool.and_eq_true, decide_eq_true_eq] at hc
          obtain ⟨ns, e1, rfl⟩ := Option.map_eq_some_iff.mp e
          obtain ⟨a, ws, rfl, h1, h2⟩ := r.dic
          obtain ⟨l, e2, rfl⟩ := h1.flat h2 hc.1
          have hk : l.map (·.1) = ns.map Sum.inl := by
            have hk := h2.keys
            rw [List.map_map] at hk
            have : ∀ {kvs : List (KK × D)} {l : List (Key × V)} {ns : List Int}, l.map ((fun x => x.1) ∘ fun p => ((Sum.inl p.1 : KK), p.2)) = kvs.map (·.1) → intsD (kvs.map fun p => kkD p.1) = some ns → l.map (·.1) = ns.map Sum.inl := by
              intro kvs
              induction kvs with
              | nil =>
                intro l ns h1 h2
                simp [intsD] at h2
                subst h2
                simp at h1
                simp [h1]
              | cons q t ih =>
                intro l ns h1 h2
                cases l with
                | nil => simp at h1
                | cons p s =>
                  simp only [List.map_cons, List.cons.injEq, Function.comp_apply] at h1
                  obtain ⟨g1, g2⟩ := h1
                  simp only [List.map_cons, ← g1] at h2
                  cases hp : p.1 with
                  | inr x => simp [kkD, kD, hp, intsD] at h2
                  | inl i =>
                    simp only [kkD, kD, hp, intsD] at h2
                    obtain ⟨ms, g3, rfl⟩ := Option.map_eq_some_iff.mp h2
                    simp [hp, ih g2 g3]
            exact this hk e1
          have hl : ns.length < 64 := by
            have a1 := congrArg List.length hk
            have a2 := congrArg List.length h2.keys
            simp at a1 a2
            omega
          refine .inr ⟨a, l, ns, rfl, .inl e2, hk, hl, fun ys p hp hs hf => k p _ hf ⟨_, rfl, ?_⟩⟩
          rw [sort_ints hp hs]
          exact Rps.ints _
        · cases e
      · cases e
  · cases r with
    | cons r t =>
      cases t
      obtain ⟨xs, e1, rfl⟩ := Option.map_eq_some_iff.mp e
      obtain ⟨a, ws, rfl, h1, h2⟩ := r.seq e1
      exact ⟨a, ws, rfl, h1, fun p hp => k p _ hp ⟨_, rfl, h2⟩⟩
  · cases r with
    | cons r t =>
      cases t
      split at e
      · obtain ⟨kvs, e1, rfl⟩ := Option.map_eq_some_iff.mp e
        obtain ⟨a, ws, rfl, h1, h2⟩ := r.lst
        obtain ⟨ps, l, rfl, q1, q2⟩ := pair_rel e1 h2
        exact .inl ⟨a, ps, l, rfl, SqL.of h1, q1, fun p hp => k p _ hp ⟨_, rfl, merge_rel l (wl := []) q2 Rkv.nil⟩⟩
      · split at e
        · rename_i kvs hc
          cases e
          obtain ⟨a, ws, rfl, h1, h2⟩ := r.dic
          obtain ⟨l, e2, rfl⟩ := h1.flat h2 hc
          exact .inr ⟨a, l, rfl, .inl e2, fun p hp => k p _ hp ⟨_, rfl, h2⟩⟩
        · cases e
      · cases e
  · cases e
end
section
variable {P : Pm} {Γ : Tab} {M : Mo} {S : Sm} {pf : Nat → Bool}
def GF (P : Pm) (A : Addr → Prop) (Q : VK) : D → (Loc → Option Addr) → MH → Hp → Prop := fun d o' h' H' => boxD d = true ∧ ∀ p ob, H' p = none → CtD P (UU A o') (rho o') h'.length H' d ob → Q (.ref p) (upd H' p ob)
theorem gf_fin {W : WX} {A : Addr → Prop} {o : Loc → Option Addr} {env : MEnv} {h : MH} {σ : L2.St} {H : Hp} {q : Bool} {d : Option D} {Q : VK} (R : Rel P A o env h σ H) (x : Post P W A o env h σ H q (ofO d h) (GF P A Q)) :
    ∃ z, d = some z ∧ boxD z = true ∧ ∀ p ob, H p = none → CtD P (UU A o) (rho o) h.length H z ob → Q (.ref p) (upd H p ob) := by
  obtain ⟨z, e, k⟩ := Post.ofO x R
  exact ⟨z, e, k H (Same.refl H)⟩
/-- new lists and dicts -/
theorem sF (SO : SmOk P Γ M S pf) : ∀ e : E, frs e = true → wf pf e = true → ∀ (W : WX) b A o env h σ H Q, Rel P A o env h σ H → Post P W A o env h σ H (pu pf e) (ev S e b env h) (GF P A Q) → (wp Γ M e W).e σ H Q
  | .lst es => fun _ w W b A o env h σ H Q R x => by
    rw [wp]
    rw [ev] at x
    simp only [wf, Bool.and_eq_true, decide_eq_true_eq] at w
    refine sEs SO es w.1 W false A o env h σ H _ (fun z => nomatch z) R (Post.sub (q2 := true) R.toRelH x (fun z => ⟨z, rfl⟩) fun ds o1 h1 H1 e1 R1 S1 P1 x1 hl vs rv => ⟨?_, fun p hp => ?_⟩)
    · rw [rv.val.len, hl, sizeLine_eq]
      omega
    · exact (Post.done x1 R1 (Same.refl _)).2 p _ hp ⟨vs, rfl, rv.val⟩
  | .dsp .nil => fun _ w W b A o env h σ H Q R x => by
    rw [wp]
    rw [ev, evp] at x
    exact .inl fun p hp => (Post.done (d := D.dic []) x R (Same.refl _)).2 p _ hp ⟨[], rfl, Rkv.nil⟩
  | .dsp (.cons k v r) => fun _ w W b A o env h σ H Q R x => by
    rw [wp]
    rw [ev] at x
    intro p hp
    have x1 := Post.tail x fun kvs h1 => by
      by_cases z : kvs.length ≤ 15
      · exact .inr ⟨_, if_pos z⟩
      · exact .inl (if_neg z)
    have wp' : wfp pf (.cons k v r) = true := by simpa [wf] using w
    have go := sPs SO (.cons k v r) wp' W (addA A p) o env h σ (upd H p (.dK []))
      (fun ps H2 => H2 p = some (.dK []) ∧ ∃ kvs : List (Key × V), ps = kvs.map (fun kv => (kV kv.1, kv.2)) ∧ kvs.length ≤ 15 ∧ Q (.ref p) (upd H2 p (.dK (mergeK [] kvs)))) (R.add hp) ?_
    · rw [wpp] at go
      exact go
    refine Post.imp (post_addA R.toRelH hp x1) id fun kvs o1 h1 H1 e1 R1 S1 P1 y l rl hl => ?_
    obtain ⟨d2, q1, q2⟩ := y
    have hp1 : H1 p = some (.dK []) := (S1.ak p (.inr rfl)).trans upd_same
    have nA : ¬ A p := fun u => R.live p u hp
    split at q1
    · rename_i h15
      cases q1
      refine ⟨hp1, l, rfl, by rw [← hl]; exact h15, ?_⟩
      have Sd : Stp A o h H o1 h1 H1 := Stp.addT R.toRelH hp (Stp.putT R.toRelH hp Stp.refl) S1
      have S2 : Stp A o h H o1 h1 (erase H1 p) := Stp.erase R.toRelH hp Sd
      rw [← erase_upd]
      refine (q2 o1 (erase H1 p) (R.step S2 (R1.toRelH.erase nA)) S2 fun z => ?_).2 p _ erase_same ⟨_, rfl, (merge_rel l rl (wl := []) Rkv.nil).stay (stay_erase _)⟩
      obtain ⟨z1, z2, z3⟩ := P1 (by simpa [pu] using z)
      refine ⟨z1, z2, fun b u e => ?_⟩
      have hn : b ≠ p := ne_of_none e hp
      rw [erase_ne hn]
      exact z3 b u (by rw [upd_ne hn]; exact e)
    · cases q1
  | .bin op a c => fun f w W b A o env h σ H Q R x => by
    rw [wp]
    rw [ev] at x
    simp only [wf, Bool.and_eq_true] at w
    refine (sE SO a).1 w.1.1 W true A o env h σ H _ R (Post.sub (q2 := pu pf c) R.toRelH x (fun z => by simpa [pu] using z) fun d o1 h1 H1 e1 R1 S1 P1 x1 v rv => ?_)
    refine (sE SO c).1 w.1.2 W true A o1 env h1 σ H1 _ R1 (Post.sub (q2 := true) R1.toRelH x1 (fun z => ⟨z, rfl⟩) fun d2 o2 h2 H2 e2 R2 S2 P2 x2 u ru => ?_)
    obtain ⟨z, ez, bz, k⟩ := gf_fin R2 x2
    have w2 := w.2
    have rv' := rv.keep S2 fun hb => P2 (by simp only [ordB, Bool.or_eq_true, Bool.not_eq_true'] at w2; rcases w2 with w2 | w2 <;> simp_all)
    rw [SO.K]
    exact rbinF ez bz rv'.top ru.top k
  | .slc a lo hi => fun f w W b A o env h σ H Q R x => by
    rw [wp]
    rw [ev] at x
    simp only [wf, Bool.and_eq_true] at w
    refine (sE SO a).1 w.1.1.1 W true A o env h σ H _ R (Post.sub (q2 := puo pf lo && puo pf hi) R.toRelH x (fun z => by simp only [pu, Bool.and_eq_true] at z; simp [z]) fun d o1 h1 H1 e1 R1 S1 P1 x1 v rv => ?_)
    refine sO SO lo w.1.1.2 W A o1 env h1 σ H1 _ R1 (Post.sub (q2 := puo pf hi) R1.toRelH x1 (fun z => by simpa using z) fun d2 o2 h2 H2 e2 R2 S2 P2 x2 => ?_)
    refine sO SO hi w.1.2 W A o2 env h2 σ H2 _ R2 (Post.sub (q2 := true) R2.toRelH x2 (fun z => ⟨z, rfl⟩) fun d3 o3 h3 H3 e3 R3 S3 P3 x3 => ?_)
    obtain ⟨z, ez, bz, k⟩ := gf_fin R3 x3
    have w2 := w.2
    have pz : (true && bor a) = true → puo pf lo = true ∧ puo pf hi = true := fun hb => by
      simp only [Bool.or_eq_true, Bool.not_eq_true', Bool.and_eq_true] at w2
      rcases w2 with w2 | w2
      · simp_all
      · exact w2
    have rv' := (rv.keep S2 fun hb => P2 (pz hb).1).keep S3 fun hb => P3 (pz hb).2
    rw [SO.K]
    exact rslcF ez bz rv'.top k
  | .bi bb es => fun f w W b A o env h σ H Q R x => by
    rw [wp]
    rw [ev] at x
    simp only [wf, Bool.and_eq_true] at w
    refine sEs SO es w.1 W true A o env h σ H _ (fun _ => w.2) R (Post.sub (q2 := true) R.toRelH x (fun z => ⟨z, rfl⟩) fun ds o1 h1 H1 e1 R1 S1 P1 x1 hl vs rv => ?_)
    obtain ⟨z, ez, bz, k⟩ := gf_fin R1 x1
    rw [SO.K]
    refine rbiF ?_ ez rv.tops k
    simp only [frs, Bool.or_eq_true, decide_eq_true_eq] at f
    rcases f with (f | f) | f
    · exact .inl f
    · exact .inr (.inl f)
    · exact .inr (.inr f)
  | .rng tl a => fun f w W b A o env h σ H Q R x => by
    rw [wp]
    rw [ev] at x
    simp only [wf] at w
    have ft : tl = false := by simpa [frs] using f
    subst ft
    refine (sE SO a).1 w W true A o env h σ H _ R (Post.sub (q2 := true) R.toRelH x (fun z => ⟨z, rfl⟩) fun d o1 h1 H1 e1 R1 S1 P1 x1 v rv => ?_)
    split at x1
    · rename_i n
      split at x1
      · rename_i hn
        refine ⟨n, rv.top.int, ⟨by omega, by omega, by omega, by omega, by omega⟩, fun q hq => ?_⟩
        refine (Post.done x1 R1 (Same.refl _)).2 q _ hq ⟨_, rfl, ?_⟩
        have e1 : rngD 0 n.toNat = ((List.range n.toNat).map fun i => (0 : Int) + (i : Nat)).map .int := by simp [rngD, Function.comp_def]
        have e2 : rgV 0 n = ((List.range n.toNat).map fun i => (0 : Int) + (i : Nat)).map .int := by simp [rgV, Function.comp_def]
        rw [e1, e2]
        exact Rps.ints _
      · exact x1.elim
    · exact x1.elim
  | .comp e t it c own => fun f w W b A o env h σ H Q R x => by
    rw [wp]
    rw [ev] at x
    simp only [wf, Bool.and_eq_true] at w
    obtain ⟨⟨⟨⟨w1, w2⟩, w3⟩, w4⟩, w5⟩ := w
    refine sI SO it w2 W true A o env h σ H _ R (Post.sub (q2 := pu pf e && puo pf c) R.toRelH x (fun z => by simp only [pu, Bool.and_eq_true] at z; simp [z]) fun ds o1 h1 H1 e1 R1 S1 P1 x1 J its D hD => ?_)
    split at x1
    · rename_i hl
      obtain ⟨y, h2, ey, x2⟩ := noX_ok x1
      obtain ⟨ys, h2', ey, e2⟩ := bind_ok ey
      cases e2
      refine comp_ok SO (sE SO e).1 (sC SO c) w1 w3 w4 its (fun z => ?_) R1 hl ey hD fun o' H' vs nD R' S' P' r => (x2 o' _ R' S' P').2 D _ nD ⟨vs, rfl, r⟩
      simp only [Bool.true_and] at z
      simp only [z, Bool.not_true, Bool.false_or] at w5
      exact w5
    · exact x1.elim
  | .var _ => fun f => nomatch f
  | .lit _ => fun f => nomatch f
  | .glb _ => fun f => nomatch f
  | .bty _ => fun f => nomatch f
  | .tup _ => fun f => nomatch f
  | .neg _ => fun f => nomatch f
  | .not _ => fun f => nomatch f
  | .andl _ => fun f => nomatch f
  | .orl _ => fun f => nomatch f
  | .ife _ _ _ => fun f => nomatch f
  | .cmp _ _ _ => fun f => nomatch f
  | .isN _ => fun f => nomatch f
  | .ntN _ => fun f => nomatch f
  | .idx _ _ => fun f => nomatch f
  | .fld _ _ _ => fun f => nomatch f
  | .call _ _ => fun f => nomatch f
  | .meth _ _ _ => fun f => nomatch f
  | .new _ _ _ => fun f => nomatch f
  | .bm _ _ _ => fun f => nomatch f
end
end MP

set_option Elab.async false
set_option linter.all false
set_option maxRecDepth 100000
set_option maxHeartbeats 4000000
namespace MP
open PySem PySem.Spec PyProof.Rows L2
section
variable {P : Pm} {A A' : Addr → Prop} {o o' o'' : Loc → Option Addr} {h h' h'' : MH} {H H' H'' : Hp} {env env' : MEnv} {σ σ' : L2.St} {p : Addr} {l0 : Loc} {oa : Option Addr} {T : Loc → Prop}
/-! ### changes in place -/
theorem chg_stay (n : Nat) (R : RelH P A o h H) (e0 : ∀ r, l0 ≠ .ob r) (ow : ∀ p, oa = some p → o l0 = some p ∨ H p = none) (kp : ∀ a, H a ≠ none → H' a = H a ∨ ∃ l, o l = some a ∧ T l) :
    Stay (UU A o) (UU A (setO o l0 oa)) (rho o) (rho (setO o l0 oa)) n n H H' where
  keep := fun a e u => by
    refine ⟨?_, ?_⟩
    · rcases kp a e with q | ⟨l, q, _⟩
      · exact q
      · exact (u (.inr ⟨l, q⟩)).elim
    · rintro (v | ⟨l, q⟩)
      · exact u (.inl v)
      · by_cases z : l = l0
        · subst z
          rw [setO_same] at q
          rcases ow a q with q | q
          · exact u (.inr ⟨_, q⟩)
          · exact e q
        · rw [setO_ne z] at q
          exact u (.inr ⟨_, q⟩)
  rho := fun r _ => by
    unfold rho
    rw [setO_ne fun z => e0 r z.symm]
  le := Nat.le_refl _
theorem RelH.chg (R : RelH P A o h H) (e0 : ∀ r, l0 ≠ .ob r) (ow : ∀ p, oa = some p → o l0 = some p ∨ (H p = none ∧ H' p ≠ none)) (kp : ∀ a, H a ≠ none → H' a = H a ∨ ∃ l, o l = some a ∧ T l) (nn : ∀ a, H a ≠ none → H' a ≠ none) (hl : h'.length = h.length)
    (hob : ∀ r m, h'[r]? = some m → (h[r]? = some m ∧ ∀ l, T l ∨ l = l0 → l ≠ .ob r ∧ ∀ j, l ≠ .fl r j) ∨ ObR P A (setO o l0 oa) h.length H' r m) (hfar : ∀ r j, l0 = .fl r j → r < h.length) : RelH P A (setO o l0 oa) h' H' := by
  have st := fun n => chg_stay (T := T) (H' := H') n R e0 (fun p q => (ow p q).imp id And.left) kp
  have frs : ∀ {a}, H a ≠ none → oa = some a → o l0 = some a := fun e q => (ow _ q).elim id fun z => (e z.1).elim
  refine ⟨fun l l' a e e' => ?_, fun l a e u => ?_, fun a u => nn a (R.live a u), fun l a e => ?_, fun r m e => ?_, fun r hr => ?_⟩
  · by_cases z : l = l0
    · by_cases z' : l' = l0
      · rw [z, z']
      · rw [z, setO_same] at e
        rw [setO_ne z'] at e'
        rw [z]
        exact R.inj _ _ _ (frs (R.ol _ _ e') e) e'
    · rw [setO_ne z] at e
      by_cases z' : l' = l0
      · rw [z', setO_same] at e'
        rw [z']
        exact R.inj _ _ _ e (frs (R.ol _ _ e) e')
      · rw [setO_ne z'] at e'
        exact R.inj _ _ _ e e'
  · by_cases z : l = l0
    · rw [z, setO_same] at e
      exact R.apart _ a (frs (R.live _ u) e) u
    · rw [setO_ne z] at e
      exact R.apart l a e u
  · by_cases z : l = l0
    · rw [z, setO_same] at e
      rcases ow a e with q | q
      · exact nn a (R.ol _ a q)
      · exact q.2
    · rw [setO_ne z] at e
      exact nn a (R.ol l a e)
  · rw [hl]
    rcases hob r m e with ⟨e1, e2⟩ | x
    · refine ObR.stay (st _) (setO_ne fun z => e0 r z.symm) (fun j => setO_ne fun z => (e2 l0 (.inr rfl)).2 j z.symm) (fun l a ea hl => ?_) (R.ob r m e1)
      rcases kp a (R.ol l a ea) with q | ⟨l', q, t⟩
      · exact q
      · have := R.inj _ _ _ ea q
        subst this
        rcases hl with ⟨j, hl⟩ | hl
        · exact ((e2 l (.inl t)).2 j hl).elim
        · exact ((e2 l (.inl t)).1 hl).elim
    · exact x
  · rw [hl] at hr
    refine ⟨by rw [setO_ne fun z => e0 r z.symm]; exact (R.far r hr).1, fun j => ?_⟩
    rw [setO_ne fun z => Nat.lt_irrefl _ (Nat.lt_of_lt_of_le (hfar r j z.symm) hr)]
    exact (R.far r hr).2 j
theorem Rel.chg (R : Rel P A o env h σ H) (e0 : ∀ r, l0 ≠ .ob r) (ow : ∀ p, oa = some p → o l0 = some p ∨ (H p = none ∧ H' p ≠ none)) (kp : ∀ a, H a ≠ none → H' a = H a ∨ ∃ l, o l = some a ∧ T l) (nn : ∀ a, H a ≠ none → H' a ≠ none) (hl : h'.length = h.length)
    (hob : ∀ r m, h'[r]? = some m → (h[r]? = some m ∧ ∀ l, T l ∨ l = l0 → l ≠ .ob r ∧ ∀ j, l ≠ .fl r j) ∨ ObR P A (setO o l0 oa) h.length H' r m) (hfar : ∀ r j, l0 = .fl r j → r < h.length)
    (le : env'.length = env.length) (ls : σ'.length = σ.length) (hs : ∀ i s, env'[i]? = some s → (env[i]? = some s ∧ σ'.getD i none = σ.getD i none ∧ ∀ l, T l ∨ l = l0 → l ≠ .sl i) ∨ SlR P A (setO o l0 oa) h.length H' (setO o l0 oa (.sl i)) s (σ'.getD i none)) (hsf : ∀ i, l0 = .sl i → i < env.length) :
    Rel P A (setO o l0 oa) env' h' σ' H' :=
  { R.toRelH.chg e0 ow kp nn hl hob hfar with
    len := by rw [le, ls]; exact R.len
    sl := fun i s e => by
      rw [hl]
      rcases hs i s e with ⟨e1, e2, e3⟩ | x
      · rw [e2, setO_ne fun z => e3 l0 (.inr rfl) z.symm]
        refine (R.sl i s e1).stay (chg_stay (T := T) _ R.toRelH e0 (fun p q => (ow p q).imp id And.left) kp) fun a ea => ?_
        rcases kp a (R.ol _ a ea) with q | ⟨l', q, t⟩
        · exact q
        · have := R.inj _ _ _ ea q
          subst this
          exact (e3 _ (.inl t) rfl).elim
      · exact x
    slf := fun i hi => by
      rw [le] at hi
      rw [setO_ne fun z => Nat.lt_irrefl _ (Nat.lt_of_lt_of_le (hsf i z.symm) hi)]
      exact R.slf i hi }

/-! ### since the body began -/
structure Bd (A : Addr → Prop) (o0 : Loc → Option Addr) (h0 : MH) (H0 : Hp) (q : Bool) (o : Loc → Option Addr) (h : MH) (H : Hp) : Prop where
  keep : ∀ a, H0 a ≠ none → ¬ UU A o0 a → H a = H0 a ∧ ¬ UU A o a
  ak : ∀ a, A a → H a = H0 a
  ob : ∀ r, r < h0.length → o (.ob r) = o0 (.ob r)
  len : h0.length ≤ h.length
  pu : q = true → (∀ r, o (.ob r) = o0 (.ob r)) ∧ (∀ r j, o (.fl r j) = o0 (.fl r j)) ∧ h = h0 ∧ (∀ a u, H0 a = some u → H a = some u ∨ ∃ i, o0 (.sl i) = some a) ∧ ∀ i a, o (.sl i) = some a → H0 a = none ∨ ∃ i', o0 (.sl i') = some a
variable {o0 : Loc → Option Addr} {h0 : MH} {H0 : Hp} {q : Bool}
theorem Bd.refl : Bd A o h H q o h H := ⟨fun a e u => ⟨rfl, u⟩, fun _ _ => rfl, fun _ _ => rfl, Nat.le_refl _, fun _ => ⟨fun _ => rfl, fun _ _ => rfl, rfl, fun a u e => .inl e, fun i a e => .inr ⟨i, e⟩⟩⟩
theorem Bd.trans (B : Bd A o0 h0 H0 q o h H) (C : Bd A o h H q o' h' H') : Bd A o0 h0 H0 q o' h' H' where
  keep := fun a e u => by
    obtain ⟨e1, u1⟩ := B.keep a e u
    obtain ⟨e2, u2⟩ := C.keep a (by rw [e1]; exact e) u1
    exact ⟨e2.trans e1, u2⟩
  ak := fun a u => (C.ak a u).trans (B.ak a u)
  ob := fun r hr => (C.ob r (Nat.lt_of_lt_of_le hr B.len)).trans (B.ob r hr)
  len := Nat.le_trans B.len C.len
  pu := fun z => by
    obtain ⟨b1, b2, b3, b4, b5⟩ := B.pu z
    obtain ⟨c1, c2, c3, c4, c5⟩ := C.pu z
    refine ⟨fun r => (c1 r).trans (b1 r), fun r j => (c2 r j).trans (b2 r j), c3.trans b3, fun a u e => ?_, fun i a e => ?_⟩
    · rcases b4 a u e with y | y
      · rcases c4 a u y with y | ⟨i, y⟩
        · exact .inl y
        · rcases b5 i a y with y | y
          · rw [y] at e
            cases e
          · exact .inr y
      · exact .inr y
    · cases y : H0 a with
      | none => exact .inl rfl
      | some u =>
        right
        rcases b4 a u y with t | t
        · rcases c5 i a e with r | ⟨i', r⟩
          · rw [r] at t
            cases t
          · rcases b5 i' a r with r | r
            · rw [r] at y
              cases y
            · exact r
        · exact t
theorem Bd.stay (B : Bd A o0 h0 H0 q o h H) : Stay (UU A o0) (UU A o) (rho o0) (rho o) h0.length h.length H0 H :=
  ⟨B.keep, fun r hr => by unfold rho; rw [B.ob r hr], B.len⟩
theorem Bd.of_stp (s : Stp A o h H o' h' H') (pq : q = true → Pure o h H o' h' H') : Bd A o h H q o' h' H' :=
  ⟨s.keep, s.ak, s.ob, s.len, fun z => by
    obtain ⟨rfl, rfl, p3⟩ := pq z
    exact ⟨fun _ => rfl, fun _ _ => rfl, rfl, fun a u e => .inl (p3 a u e), fun i a e => .inr ⟨i, e⟩⟩⟩
theorem Bd.step (B : Bd A o0 h0 H0 q o h H) (s : Stp A o h H o' h' H') (pq : q = true → Pure o h H o' h' H') : Bd A o0 h0 H0 q o' h' H' := B.trans (Bd.of_stp s pq)
/-- a change in place (of a slot's things only, where q) -/
theorem Bd.chg (B : Bd A o0 h0 H0 q o h H) (R : RelH P A o h H) (e0 : ∀ r, l0 ≠ .ob r) (ow : ∀ p, oa = some p → o l0 = some p ∨ (H p = none ∧ H' p ≠ none)) (kp : ∀ a, H a ≠ none → H' a = H a ∨ ∃ l, o l = some a ∧ T l) (hl : h'.length = h.length)
    (pq : q = true → h' = h ∧ (∃ i, l0 = .sl i) ∧ ∀ l, T l → ∃ i, l = .sl i) : Bd A o0 h0 H0 q (setO o l0 oa) h' H' := B.trans {
  keep := (chg_stay (T := T) (H' := H') 0 R e0 (fun p q => (ow p q).imp id And.left) kp).keep
  ak := fun a u => by
    rcases kp a (R.live a u) with q | ⟨l, q, _⟩
    · exact q
    · exact (R.apart l a q u).elim
  ob := fun r hr => setO_ne fun z => e0 r z.symm
  len := by rw [hl]; exact Nat.le_refl _
  pu := fun z => by
    obtain ⟨p1, ⟨i0, rfl⟩, p3⟩ := pq z
    refine ⟨fun r => setO_ne fun z => Loc.noConfusion z, fun r j => setO_ne fun z => Loc.noConfusion z, p1, fun a u e => ?_, fun i a e => ?_⟩
    · rcases kp a (by rw [e]; exact fun z => nomatch z) with q | ⟨l, q, t⟩
      · exact .inl (q.trans e)
      · obtain ⟨i, rfl⟩ := p3 l t
        exact .inr ⟨i, q⟩
    · by_cases z : i = i0
      · subst z
        rw [setO_same] at e
        exact (ow a e).elim (fun q => .inr ⟨_, q⟩) fun q => .inl q.1
      · rw [setO_ne fun q => by cases q; exact z rfl] at e
        exact .inr ⟨i, e⟩ }
/-- the slots go -/
def noS (o : Loc → Option Addr) : Loc → Option Addr
  | .sl _ => none
  | l => o l
theorem noS_le {l : Loc} {a : Addr} (e : noS o l = some a) : o l = some a := by
  cases l with
  | sl i => cases e
  | ob r => exact e
  | fl r j => exact e
theorem stay_noS (n : Nat) : Stay (UU A o) (UU A (noS o)) (rho o) (rho (noS o)) n n H H :=
  ⟨fun a e u => ⟨rfl, fun z => u (z.imp id fun ⟨l, q⟩ => ⟨l, noS_le q⟩)⟩, fun _ _ => rfl, Nat.le_refl _⟩
theorem RelH.noS (R : RelH P A o h H) : RelH P A (MP.noS o) h H :=
  ⟨fun l l' a e e' => R.inj l l' a (noS_le e) (noS_le e'), fun l a e => R.apart l a (noS_le e), R.live, fun l a e => R.ol l a (noS_le e), fun r m e => ObR.stay (stay_noS _) rfl (fun _ => rfl) (fun _ _ _ _ => rfl) (R.ob r m e), R.far⟩
theorem Bd.toNoS (B : Bd A o0 h0 H0 q o h H) : Bd A o0 h0 H0 q (MP.noS o) h H :=
  ⟨fun a e u => ⟨(B.keep a e u).1, fun z => (B.keep a e u).2 (z.imp id fun ⟨l, y⟩ => ⟨l, noS_le y⟩)⟩, B.ak, B.ob, B.len, fun z => ⟨(B.pu z).1, (B.pu z).2.1, (B.pu z).2.2.1, (B.pu z).2.2.2.1, fun i a e => by cases e⟩⟩
theorem Bd.fin (ns : noSl o0) (ns' : noSl o) (B : Bd A o0 h0 H0 q o h H) : Stp A o0 h0 H0 o h H ∧ (q = true → Pure o0 h0 H0 o h H) := by
  refine ⟨⟨B.keep, fun i => (ns' i).trans (ns i).symm, fun i a e => (by rw [ns i] at e; cases e), B.ak, B.ob, B.len⟩, fun z => ?_⟩
  obtain ⟨b1, b2, b3, b4, b5⟩ := B.pu z
  refine ⟨?_, b3, fun a u e => (b4 a u e).elim id fun ⟨i, y⟩ => by rw [ns i] at y; cases y⟩
  funext l
  cases l with
  | sl i => exact (ns' i).trans (ns i).symm
  | ob r => exact b1 r
  | fl r j => exact b2 r j
end
end MP

set_option Elab.async false
set_option linter.all false
set_option maxRecDepth 100000
set_option maxHeartbeats 4000000
namespace MP
open PySem PySem.Spec PyProof.Rows L2
/-! ### statements -/
inductive SR where
  | nx (e : MEnv) (h : MH)
  | brk (e : MEnv) (h : MH)
  | cnt (e : MEnv) (h : MH)
  | ret (d : D) (h : MH)
  | exc (c : Nat) (p : Option D) (e : MEnv) (h : MH)
  | bad
def bindS {α : Type} (m : Out α) (env : MEnv) (f : α → MH → SR) : SR := match m with
  | .ok a h => f a h
  | .exc c p _ h => .exc c p env h
  | .bad => .bad
/-- the list or dict that stands at a place -/
def getL (env : MEnv) (h : MH) : Loc → Option Sl
  | .sl i => env[i]?
  | .fl r j => match h[r]? with
    | some (.ins _ fs) => fs[j]?
    | _ => none
  | .ob r => match h[r]? with
    | some (.lst xs) => some (.ol xs)
    | some (.dic kvs) => some (.od kvs)
    | _ => none
def setE (env : MEnv) : Loc → Sl → MEnv
  | .sl i, s => env.set i s
  | _, _ => env
def setH (h : MH) : Loc → Sl → MH
  | .fl r j, s => match h[r]? with
    | some (.ins c fs) => h.set r (.ins c (fs.set j s))
    | _ => h
  | .ob r, .ol xs => h.set r (.lst xs)
  | .ob r, .od kvs => h.set r (.dic kvs)
  | _, _ => h
def putL (env : MEnv) (h : MH) (l : Loc) (s : Sl) : SR := .nx (setE env l s) (setH h l s)
def plc (l : Loc) (s : Sl) : Option Loc := match s with
  | .ol _ => some l
  | .od _ => some l
  | .val (.ref r) => some (.ob r)
  | _ => none
/-- a slot's list, not one that others hold, too -/
def okP : E → Loc → Bool
  | .var _, .ob _ => false
  | _, _ => true
/-- o.append(a), o.extend(a) -/
def exK : E → Option (Bool × E × E)
  | .bm .append o (.cons a .nil) => some (true, o, a)
  | .bm .extend o (.cons a .nil) => some (false, o, a)
  | _ => none
def varK : E → Option Nat
  | .var i => some i
  | _ => none
def loopF (f : D → MEnv → MH → SR) : List D → MEnv → MH → SR
  | [], e, h => .nx e h
  | d :: r, e, h => match f d e h with
    | .nx e1 h1 => loopF f r e1 h1
    | .cnt e1 h1 => loopF f r e1 h1
    | .brk e1 h1 => .nx e1 h1
    | x => x
def loopW (c : MEnv → MH → Out D) (f : MEnv → MH → SR) : Nat → MEnv → MH → SR
  | 0, _, _ => .bad
  | n + 1, e, h => bindS (c e h) e fun d h1 => match d with
    | .bl true => match f e h1 with
      | .nx e1 h2 => loopW c f n e1 h2
      | .cnt e1 h2 => loopW c f n e1 h2
      | .brk e1 h2 => .nx e1 h2
      | x => x
    | .bl false => .nx e h1
    | _ => .bad
section
variable (S : Sm) (fu : Nat)
noncomputable def evP : E → MEnv → MH → Out Loc
  | .var i, env, h => match env[i]? with
    | some s => ofO (plc (.sl i) s) h
    | none => .bad
  | .fld c j x, env, h => (ev S x false env h).bind fun d h1 => match d with
    | .ref r => match h1[r]? with
      | some (.ins c' fs) => if c' = c then match fs[j]? with
        | some s => ofO (plc (.fl r j) s) h1
        | none => .bad else .bad
      | _ => .bad
    | _ => .bad
  | _, _, _ => .bad
mutual
noncomputable def exec : MP.S → MEnv → MH → SR
  | .set i e al, env, h => bindS (ev S e false env h) env fun d h1 => if i < env.length then match al with
    | .val => .nx (env.set i (.val d)) h1
    | .own => match d with
      | .lst xs => .nx (env.set i (.ol xs)) h1
      | .dic kvs => .nx (env.set i (.od kvs)) h1
      | _ => .bad
    | .obj => match d with
      | .lst xs => .nx (env.set i (.val (.ref h1.length))) (h1 ++ [.lst xs])
      | .dic kvs => .nx (env.set i (.val (.ref h1.length))) (h1 ++ [.dic kvs])
      | _ => .bad
    else .bad
  | .tset t e, env, h => bindS (ev S e false env h) env fun d h1 => match asg t d env with
    | some e1 => .nx e1 h1
    | none => .bad
  | .par i j a b, env, h => bindS (ev S a false env h) env fun x h1 => bindS (ev S b false env h1) env fun y h2 => if i < env.length ∧ j < env.length then .nx ((env.set i (.val x)).set j (.val y)) h2 else .bad
  | .setf c j o e al, env, h => match al with
    | .val => bindS (ev S e false env h) env fun d h1 => bindS (ev S o false env h1) env fun x h2 => match x with
      | .ref r => match h2[r]? with
        | some (.ins c' fs) => if c' = c ∧ j < fs.length then .nx env (h2.set r (.ins c (fs.set j (.val d)))) else .bad
        | _ => .bad
      | _ => .bad
    | .own => bindS (ev S e false env h) env fun d h1 => match varK o with
      | some k => match env[k]? with
        | some (.val (.ref r)) => match h1[r]? with
          | some (.ins c' fs) => if c' = c ∧ j < fs.length then match d with
            | .lst xs => .nx env (h1.set r (.ins c (fs.set j (.ol xs))))
            | .dic kvs => .nx env (h1.set r (.ins c (fs.set j (.od kvs))))
            | _ => .bad else .bad
          | _ => .bad
        | _ => .bad
      | none => .bad
    | .obj => .bad
  | .seti o i e, env, h => bindS (ev S e false env h) env fun d h1 => bindS (evP S o env h1) env fun l h2 => bindS (ev S i false env h2) env fun k h3 => match getL env h3 l with
    | some (.ol xs) => match k with
      | .int j => match ixN xs.length j with
        | some n => putL env h3 l (.ol (xs.set n d))
        | none => .bad
      | _ => .bad
    | some (.od kvs) => match k.key with
      | some q => if KK.flat q && kinds true kvs && lim (kvs.length + 1) then putL env h3 l (.od (kput kvs q d)) else .bad
      | none => .bad
    | _ => .bad
  | .aug i op e, env, h => match env[i]? with
    | some (.val x) => bindS (ev S e true env h) env fun y h1 => match in2D op x y with
      | some z => .nx (env.set i (.val z)) h1
      | none => .bad
    | _ => .bad
  | .augf c j o op e, env, h => bindS (ev S o false env h) env fun x h1 => match x with
    | .ref r => match fldD x c j false h1 with
      | some v => bindS (ev S e true env h1) env fun y h2 => match in2D op v y, h2[r]? with
        | some z, some (.ins c' fs) => if c' = c ∧ j < fs.length then .nx env (h2.set r (.ins c (fs.set j (.val z)))) else .bad
        | _, _ => .bad
      | none => .bad
    | _ => .bad
  | .augi o i op e, env, h => bindS (evP S o env h) env fun l h1 => bindS (ev S i false env h1) env fun k h2 => match getL env h2 l with
    | some (.od kvs) => match k.key with
      | some q => if KK.flat q && kinds true kvs && lim (kvs.length + 1) then match kget kvs q with
        | some v => bindS (ev S e true env h2) env fun y h3 => match in2D op v y with
          | some z => putL env h3 l (.od (kput kvs q z))
          | none => .bad
        | none => .bad else .bad
      | none => .bad
    | _ => .bad
  | .ex e, env, h => match exK e with
    | some (true, o, a) => bindS (evP S o env h) env fun l h1 => match getL env h1 l with
      | some (.ol _) => bindS (ev S a false env h1) env fun d h2 => match getL env h2 l with
        | some (.ol xs) => if (lim (xs.length + 1) && okP o l) = true then putL env h2 l (.ol (xs ++ [d])) else .bad
        | _ => .bad
      | _ => .bad
    | some (false, o, a) => bindS (evP S o env h) env fun l h1 => match getL env h1 l with
      | some (.ol _) => bindS (ev S a true env h1) env fun d h2 => match getL env h2 l with
        | some (.ol xs) => match d with
          | .lst ys => if (lim (xs.length + ys.length) && okP o l) = true then putL env h2 l (.ol (xs ++ ys)) else .bad
          | _ => .bad
        | _ => .bad
      | _ => .bad
    | none => bindS (ev S e true env h) env fun _ h1 => .nx env h1
  | .ret e, env, h => match varK e with
    | some i => match env[i]? with
      | some (.ol xs) => .ret (.lst xs) h
      | some (.od kvs) => .ret (.dic kvs) h
      | some (.val d) => .ret d h
      | _ => .bad
    | none => bindS (ev S e false env h) env fun d h1 => .ret d h1
  | .retN, _, h => .ret .non h
  | .iff c a b, env, h => bindS (ev S c true env h) env fun d h1 => match d with
    | .bl true => execB a env h1
    | .bl false => execB b env h1
    | _ => .bad
  | .whl c b, env, h => loopW (fun e h1 => ev S c true e h1) (fun e h1 => execB b e h1) fu env h
  | .for t it b, env, h => bindS (evI S it false env h) env fun ds h1 => loopF (fun d e h2 => match asg t d e with
    | some e1 => execB b e1 h2
    | none => .bad) ds env h1
  | .brk, env, h => .brk env h
  | .cnt, env, h => .cnt env h
  | .pass, env, h => .nx env h
  | .deli _ _, _, _ => .bad
  | .setsl _ _ _ _, _, _ => .bad
noncomputable def execB : Sb → MEnv → MH → SR
  | .nil, env, h => .nx env h
  | .cons s r, env, h => match exec s env h with
    | .nx e1 h1 => execB r e1 h1
    | x => x
end
end
/-! ### the look of a statement -/
section
variable (pf : Nat → Bool)
def isVar : E → Bool
  | .var _ => true
  | _ => false
mutual
/-- changes nothing but its own slots -/
def puS : S → Bool
  | .set _ e al => pu pf e && decide (al ≠ .obj)
  | .tset _ e => pu pf e
  | .par _ _ a b => pu pf a && pu pf b
  | .aug _ _ e => pu pf e
  | .ex e => match exK e with
    | some (_, o, a) => isVar o && pu pf a
    | none => pu pf e
  | .ret e => pu pf e
  | .retN => true
  | .iff c a b => pu pf c && puB a && puB b
  | .whl c b => pu pf c && puB b
  | .for _ it b => puI pf it && puB b
  | .brk => true
  | .cnt => true
  | .pass => true
  | _ => false
def puB : Sb → Bool
  | .nil => true
  | .cons s r => puS s && puB r
end
mutual
def wfS : S → Bool
  | .set _ e al => wf pf e && (decide (al = .val) || frs e)
  | .tset _ e => wf pf e
  | .par _ _ a b => wf pf a && wf pf b
  | .setf _ _ o e al => wf pf e && (match al with | .val => wf pf o | .own => frs e | .obj => false)
  | .seti o i e => wf pf e && wf pf o && wf pf i && pu pf i
  | .aug _ _ e => wf pf e
  | .augf _ _ o _ e => wf pf o && wf pf e
  | .augi o i _ e => wf pf o && wf pf i && wf pf e && pu pf i && pu pf e
  | .ex e => match exK e with
    | some (_, o, a) => wf pf o && wf pf a && (isVar o || pu pf a)
    | none => wf pf e
  | .ret e => wf pf e
  | .retN => true
  | .iff c a b => wf pf c && wfB a && wfB b
  | .whl c b => wf pf c && wfB b
  | .for _ it b => wfI pf it && wfB b
  | .brk => true
  | .cnt => true
  | .pass => true
  | .deli _ _ => true
  | .setsl _ _ _ _ => true
def wfB : Sb → Bool
  | .nil => true
  | .cons s r => wfS s && wfB r
end
end
end MP

set_option Elab.async false
set_option linter.all false
set_option maxRecDepth 100000
set_option maxHeartbeats 4000000
namespace MP
open PySem PySem.Spec PyProof.Rows L2
section
variable {P : Pm} {Γ : Tab} {M : Mo} {S : Sm} {pf : Nat → Bool} {A : Addr → Prop} {o o' : Loc → Option Addr} {h h' : MH} {H H' : Hp} {env env' : MEnv} {σ σ' : L2.St} {W : WX} {α β : Type} {o0 : Loc → Option Addr} {h0 : MH} {H0 : Hp} {q : Bool}
def PostS (P : Pm) (W : WX) (A : Addr → Prop) (o0 : Loc → Option Addr) (h0 : MH) (H0 : Hp) (q : Bool) (De : Ends) (out : SR) : Prop := match out with
  | .nx e h => ∀ o σ H, Rel P A o e h σ H → Bd A o0 h0 H0 q o h H → De.nx σ H
  | .brk e h => ∀ o σ H, Rel P A o e h σ H → Bd A o0 h0 H0 q o h H → De.bk σ H
  | .cnt e h => ∀ o σ H, Rel P A o e h σ H → Bd A o0 h0 H0 q o h H → De.ct σ H
  | .ret d h => ∀ o v H, noSl o → RelH P A o h H → Bd A o0 h0 H0 q o h H → Rp P (UU A o) (rho o) h.length H d v → De.rt v H
  | .exc c p e h => ∀ o σ H cls dd, Rel P A o e h σ H → Bd A o0 h0 H0 false o h H → ExR P A o h.length H c p cls dd → W cls dd σ H
  | .bad => False
theorem Bd.weak (B : Bd A o0 h0 H0 q o h H) : Bd A o0 h0 H0 false o h H := ⟨B.keep, B.ak, B.ob, B.len, fun z => nomatch z⟩
theorem PostS.sub {De : Ends} {m : Out α} {f : α → MH → SR} {qe : Bool} {G : α → (Loc → Option Addr) → MH → Hp → Prop} (B : Bd A o0 h0 H0 q o h H) (x : PostS P W A o0 h0 H0 q De (bindS m env f)) (hq : q = true → qe = true)
    (k : ∀ d o1 h1 H1, m = .ok d h1 → Rel P A o1 env h1 σ H1 → Stp A o h H o1 h1 H1 → (qe = true → Pure o h H o1 h1 H1) → Bd A o0 h0 H0 q o1 h1 H1 → PostS P W A o0 h0 H0 q De (f d h1) → G d o1 h1 H1) : Post P W A o env h σ H qe m G := by
  cases m with
  | ok d h1 => exact fun o1 H1 R1 S1 P1 => k d o1 h1 H1 rfl R1 S1 P1 (B.step S1 fun z => P1 (hq z)) x
  | exc c p e h1 => exact fun o1 H1 cls dd R1 S1 ex => x o1 σ H1 cls dd R1 (B.weak.step S1 fun z => nomatch z) ex
  | bad => exact x

theorem cntS_le : ∀ fs : List Sl, cntS fs ≤ fs.length
  | [] => Nat.le_refl _
  | .un :: r => Nat.le_succ_of_le (cntS_le r)
  | .val _ :: r => Nat.succ_le_succ (cntS_le r)
  | .ol _ :: r => Nat.succ_le_succ (cntS_le r)
  | .od _ :: r => Nat.succ_le_succ (cntS_le r)
theorem cntS_set {s : Sl} (hs : s ≠ .un) : ∀ (fs : List Sl) (j : Nat), cntS fs ≤ cntS (fs.set j s) ∧ (fs[j]? = some .un → cntS fs + 1 ≤ cntS (fs.set j s))
  | [], _ => by simp
  | a :: r, 0 => by
    cases s with
    | un => exact (hs rfl).elim
    | val d => cases a <;> simp [cntS]
    | ol d => cases a <;> simp [cntS]
    | od d => cases a <;> simp [cntS]
  | a :: r, j + 1 => by
    have := cntS_set hs r j
    cases a <;> simp [cntS] at this ⊢ <;> exact this
theorem putF_len (f : Str) (v : V) : ∀ gs : List (Str × V), (putF f v gs).length ≤ gs.length + 1 ∧ (∀ u, gs.lookup f = some u → (putF f v gs).length = gs.length)
  | [] => by simp [putF]
  | (g, x) :: r => by
    obtain ⟨h1, h2⟩ := putF_len f v r
    unfold putF
    by_cases z : g = f
    · rw [if_pos z]
      simp
    · rw [if_neg z]
      refine ⟨by simp only [List.length_cons]; omega, fun u e => ?_⟩
      have e' : r.lookup f = some u := by
        have : (f == g) = false := by
          rw [beq_eq_false_iff_ne]
          exact fun q => z q.symm
        rw [List.lookup_cons, this] at e
        exact e
      simp only [List.length_cons, h2 u e']

/-! ### places -/
theorem slot_plc (R : RelH P A o h H) {s : Sl} {l l' : Loc} {v : Option V} (e : plc l s = some l') (x : SlR P A o h.length H (o l) s v) : ∃ a, v = some (.ref a) ∧ o l' = some a := by
  cases s with
  | un => cases e
  | val d =>
    cases d <;> first | (cases e; done) | skip
    rename_i r
    cases e
    obtain ⟨_, u, rfl, ru⟩ := x
    have hr : r < h.length := by
      unfold Rp at ru
      exact ru.1
    obtain ⟨a, rfl, e1, _⟩ := ref_ob R (List.getElem?_eq_getElem hr) ru
    exact ⟨a, rfl, e1⟩
  | ol xs =>
    cases e
    obtain ⟨a, vs, rfl, e1, _⟩ := x
    exact ⟨a, rfl, e1⟩
  | od xs =>
    cases e
    obtain ⟨a, vs, rfl, e1, _⟩ := x
    exact ⟨a, rfl, e1⟩
theorem sP (SO : SmOk P Γ M S pf) : ∀ (e : E), wf pf e = true → ∀ {A o env h σ H Q}, Rel P A o env h σ H → Post P W A o env h σ H (pu pf e) (evP S e env h) (fun l o' h' H' => ∀ a, o' l = some a → Q (.ref a) H') → (wp Γ M e W).e σ H Q
  | .var i => fun w A o env h σ H Q R x => by
    rw [wp]
    rw [evP] at x
    show ∃ v, σ[i]? = some (some v) ∧ Q v H
    split at x
    · rename_i s es
      obtain ⟨l, el, k⟩ := Post.ofO x R
      obtain ⟨a, e1, e2⟩ := slot_plc R.toRelH el (R.sl i s es)
      refine ⟨.ref a, ?_, k H (Same.refl H) a e2⟩
      have hi : i < σ.length := by rw [← R.len]; exact (List.getElem?_eq_some_iff.mp es).1
      rw [List.getD_eq_getElem?_getD] at e1
      simp [hi] at e1 ⊢
      exact e1
    · exact x.elim
  | .fld c j e => fun w A o env h σ H Q R x => by
    rw [wp]
    rw [evP] at x
    simp only [wf] at w
    refine (sE SO e).1 w W false A o env h σ H _ R (Post.sub (q2 := true) R.toRelH x (fun z => ⟨z, rfl⟩) fun d o1 h1 H1 e1 R1 S1 P1 x1 v rv => ?_)
    split at x1
    · rename_i r
      split at x1
      · rename_i c' fs er
        split at x1
        · rename_i hc
          subst hc
          split at x1
          · rename_i s ej
            obtain ⟨l, el, k⟩ := Post.ofO x1 R1
            obtain ⟨ad, rfl, q1, a', q2, y⟩ := ref_ob R1.toRelH er rv.val
            rw [q1] at q2
            cases q2
            obtain ⟨dx, gs, y1, y2, y3, y4, y5, y6⟩ := y
            obtain ⟨a, e3, e4⟩ := slot_plc R1.toRelH el (y5 j s ej).1
            have hj : j < (P.nm c').length := by rw [← y3]; exact (List.getElem?_eq_some_iff.mp ej).1
            rw [SO.nm] at hj e3
            rw [SO.ca] at y1
            obtain ⟨f1, f2⟩ := SO.fld c' j hj
            exact ⟨ad, _, dx, gs, _, rfl, y1, f1, f2, e3, k _ (Same.refl _) a e4⟩
          · exact x1.elim
        · exact x1.elim
      · exact x1.elim
    · exact x1.elim
  | .lit _ => fun _ _ _ _ _ _ _ _ _ x => x.elim
  | .glb _ => fun _ _ _ _ _ _ _ _ _ x => x.elim
  | .bty _ => fun _ _ _ _ _ _ _ _ _ x => x.elim
  | .tup _ => fun _ _ _ _ _ _ _ _ _ x => x.elim
  | .lst _ => fun _ _ _ _ _ _ _ _ _ x => x.elim
  | .dsp _ => fun _ _ _ _ _ _ _ _ _ x => x.elim
  | .bin _ _ _ => fun _ _ _ _ _ _ _ _ _ x => x.elim
  | .neg _ => fun _ _ _ _ _ _ _ _ _ x => x.elim
  | .not _ => fun _ _ _ _ _ _ _ _ _ x => x.elim
  | .andl _ => fun _ _ _ _ _ _ _ _ _ x => x.elim
  | .orl _ => fun _ _ _ _ _ _ _ _ _ x => x.elim
  | .ife _ _ _ => fun _ _ _ _ _ _ _ _ _ x => x.elim
  | .cmp _ _ _ => fun _ _ _ _ _ _ _ _ _ x => x.elim
  | .isN _ => fun _ _ _ _ _ _ _ _ _ x => x.elim
  | .ntN _ => fun _ _ _ _ _ _ _ _ _ x => x.elim
  | .idx _ _ => fun _ _ _ _ _ _ _ _ _ x => x.elim
  | .slc _ _ _ => fun _ _ _ _ _ _ _ _ _ x => x.elim
  | .call _ _ => fun _ _ _ _ _ _ _ _ _ x => x.elim
  | .meth _ _ _ => fun _ _ _ _ _ _ _ _ _ x => x.elim
  | .new _ _ _ => fun _ _ _ _ _ _ _ _ _ x => x.elim
  | .bi _ _ => fun _ _ _ _ _ _ _ _ _ x => x.elim
  | .bm _ _ _ => fun _ _ _ _ _ _ _ _ _ x => x.elim
  | .rng _ _ => fun _ _ _ _ _ _ _ _ _ x => x.elim
  | .comp _ _ _ _ _ => fun _ _ _ _ _ _ _ _ _ x => x.elim

/-- what stands at a place -/
def CtS (P : Pm) (U : Addr → Prop) (ρ : Nat → Addr) (n : Nat) (H : Hp) (s : Sl) (ob : HO) : Prop := match s with
  | .ol xs => ∃ vs, ob = .lst vs ∧ Rps P U ρ n H xs vs
  | .od kvs => ∃ l : List (Key × V), ob = .dK l ∧ Rkv P U ρ n H kvs (l.map fun p => (.inl p.1, p.2))
  | _ => False
def AtS (P : Pm) (U : Addr → Prop) (ρ : Nat → Addr) (n : Nat) (H : Hp) (a : Addr) : Sl → Prop
  | .ol xs => ∃ vs, H a = some (.lst vs) ∧ Rps P U ρ n H xs vs
  | .od kvs => ∃ ws, HDic H a ws ∧ Rkv P U ρ n H kvs ws
  | _ => False
theorem at_slot {n : Nat} {oa : Option Addr} {v : Option V} {s : Sl} {a : Addr} (ea : oa = some a) (x : SlR P A o n H oa s v) : v = some (.ref a) ∧ AtS P (UU A o) (rho o) n H a s := by
  cases s with
  | un => rw [show oa = none from x] at ea; cases ea
  | val d => rw [x.1] at ea; cases ea
  | ol xs =>
    obtain ⟨a', vs, e1, e2, e3, r⟩ := x
    rw [ea] at e2
    cases e2
    exact ⟨e1, vs, e3, r⟩
  | od xs =>
    obtain ⟨a', vs, e1, e2, e3, r⟩ := x
    rw [ea] at e2
    cases e2
    exact ⟨e1, vs, e3, r⟩
theorem at_place (R : Rel P A o env h σ H) {l : Loc} {s : Sl} {a : Addr} (e : getL env h l = some s) (ea : o l = some a) : AtS P (UU A o) (rho o) h.length H a s := by
  cases l with
  | sl i => exact (at_slot ea (R.sl i s e)).2
  | fl r j =>
    simp only [getL] at e
    cases er : h[r]? with
    | none => rw [er] at e; cases e
    | some m =>
      rw [er] at e
      cases m with
      | ins c fs =>
        obtain ⟨a0, e0, dx, gs, y1, y2, y3, y4, y5, y6⟩ := R.ob r _ er
        exact (at_slot ea (y5 j s e).1).2
      | lst xs => cases e
      | dic xs => cases e
  | ob r =>
    simp only [getL] at e
    cases er : h[r]? with
    | none => rw [er] at e; cases e
    | some m =>
      rw [er] at e
      obtain ⟨a0, e0, y⟩ := R.ob r _ er
      rw [ea] at e0
      cases e0
      cases m with
      | ins c fs => cases e
      | lst xs => cases e; exact y.1
      | dic xs => cases e; exact y.1
theorem setO_self {l : Loc} : setO o l (o l) = o := by
  funext l'
  by_cases z : l' = l
  · subst z
    exact setO_same
  · exact setO_ne z
/-- a change of what stands at a place -/
theorem put_place (R : Rel P A o env h σ H) {l : Loc} {s0 s : Sl} {a : Addr} {ob : HO} (e : getL env h l = some s0) (ea : o l = some a) (c : CtS P (UU A o) (rho o) h.length H s ob) :
    Rel P A o (setE env l s) (setH h l s) σ (upd H a ob) ∧ ∀ {o0 h0 H0 q}, Bd A o0 h0 H0 q o h H → (q = true → ∃ i, l = .sl i) → Bd A o0 h0 H0 q o (setH h l s) (upd H a ob) := by
  have kp : ∀ b, H b ≠ none → (upd H a ob) b = H b ∨ ∃ l', o l' = some b ∧ l' = l := fun b hb => by
    by_cases z : b = a
    · subst z
      exact .inr ⟨l, ea, rfl⟩
    · exact .inl (upd_ne z)
  have nn : ∀ b, H b ≠ none → (upd H a ob) b ≠ none := fun b hb => by
    by_cases z : b = a
    · subst z
      rw [upd_same]
      exact fun z => nomatch z
    · rw [upd_ne z]
      exact hb
  have st : ∀ n, Stay (UU A o) (UU A o) (rho o) (rho o) n n H (upd H a ob) := fun n => ⟨fun b hb u => ⟨upd_ne fun z => u (by rw [z]; exact .inr ⟨l, ea⟩), u⟩, fun _ _ => rfl, Nat.le_refl _⟩
  have keepL : ∀ {l' b}, l' ≠ l → o l' = some b → (upd H a ob) b = H b := fun hl hb => upd_ne fun z => hl (R.inj _ _ _ hb (by rw [z]; exact ea))
  -- the slot's relation
  have slr : ∀ {v}, v = some (.ref a) → SlR P A o h.length (upd H a ob) (some a) s v := fun {v} ev => by
    cases s with
    | un => exact c.elim
    | val d => exact c.elim
    | ol xs =>
      obtain ⟨vs, rfl, r⟩ := c
      exact ⟨a, vs, ev, rfl, upd_same, r.stay (st _)⟩
    | od kvs =>
      obtain ⟨m, rfl, r⟩ := c
      exact ⟨a, _, ev, rfl, .inl ⟨m, upd_same, rfl⟩, r.stay (st _)⟩
  cases l with
  | sl i =>
    have hi : i < env.length := (List.getElem?_eq_some_iff.mp e).1
    have eo : setO o (.sl i) (o (.sl i)) = o := setO_self
    have RR := Rel.chg (T := fun l' => l' = .sl i) (l0 := .sl i) (oa := o (.sl i)) (h' := h) (H' := upd H a ob) (env' := env.set i s) (σ' := σ) R (fun r z => Loc.noConfusion z) (fun p hp => .inl hp) kp nn rfl
      (fun r m em => .inl ⟨em, fun l' hl => by
        have : l' = .sl i := hl.elim id id
        subst this
        exact ⟨fun z => Loc.noConfusion z, fun j z => Loc.noConfusion z⟩⟩) (fun r j z => Loc.noConfusion z) (by simp) rfl
      (fun k s' es => by
        by_cases z : i = k
        · subst z
          right
          have : s' = s := by
            rw [List.getElem?_set_self hi] at es
            exact (Option.some.inj es).symm
          subst this
          rw [eo, ea]
          exact slr (at_slot ea (R.sl i s0 e)).1
        · left
          rw [List.getElem?_set_ne z] at es
          refine ⟨es, rfl, fun l' hl => ?_⟩
          have : l' = .sl i := hl.elim id id
          subst this
          exact fun q => by cases q; exact z rfl) (fun k z => by cases z; exact hi)
    rw [eo] at RR
    refine ⟨RR, fun {o0 h0 H0 q} B _ => ?_⟩
    have BB := Bd.chg (T := fun l' => l' = .sl i) (l0 := .sl i) (oa := o (.sl i)) (h' := h) (H' := upd H a ob) B R.toRelH (fun r z => Loc.noConfusion z) (fun p hp => .inl hp) kp rfl fun _ => ⟨rfl, ⟨i, rfl⟩, fun l hl => ⟨i, hl⟩⟩
    rw [eo] at BB
    exact BB
  | fl r j =>
    have eo : setO o (.fl r j) (o (.fl r j)) = o := setO_self
    simp only [getL] at e
    cases er : h[r]? with
    | none => rw [er] at e; cases e
    | some m =>
      rw [er] at e
      cases m with
      | lst xs => cases e
      | dic xs => cases e
      | ins c' fs =>
        have hr : r < h.length := (List.getElem?_eq_some_iff.mp er).1
        have hh : setH h (.fl r j) s = h.set r (.ins c' (fs.set j s)) := by
          show (match h[r]? with | some (.ins c fs) => h.set r (.ins c (fs.set j s)) | _ => h) = _
          rw [er]
        have RR := Rel.chg (T := fun l' => l' = .fl r j) (l0 := .fl r j) (oa := o (.fl r j)) (h' := h.set r (.ins c' (fs.set j s))) (H' := upd H a ob) (env' := env) (σ' := σ) R (fun r z => Loc.noConfusion z) (fun p hp => .inl hp) kp nn (by simp)
          (fun r' m em => by
            by_cases z : r = r'
            · subst z
              right
              rw [List.getElem?_set_self hr] at em
              cases em
              rw [eo]
              obtain ⟨a0, e0, dx, gs, y1, y2, y3, y4, y5, y6⟩ := R.ob r _ er
              refine ⟨a0, e0, dx, gs, (keepL (fun z => Loc.noConfusion z) e0).trans y1, y2, by simpa using y3, Nat.le_trans y4 (cntS_set (fun z => by subst z; exact c.elim) fs j).1, fun k s' es => ?_, fun k hk => y6 k (by simpa using hk)⟩
              have hj : j < fs.length := (List.getElem?_eq_some_iff.mp e).1
              by_cases z : j = k
              · subst z
                have : s' = s := by
                  rw [List.getElem?_set_self hj] at es
                  exact (Option.some.inj es).symm
                subst this
                rw [ea]
                refine ⟨slr (at_slot ea (y5 j s0 e).1).1, fun z => ?_⟩
                subst z
                exact c.elim
              · rw [List.getElem?_set_ne z] at es
                exact ⟨(y5 k s' es).1.stay (st _) fun b hb => keepL (fun q => by cases q; exact z rfl) hb, (y5 k s' es).2⟩
            · left
              rw [List.getElem?_set_ne z] at em
              refine ⟨em, fun l' hl => ?_⟩
              have : l' = .fl r j := hl.elim id id
              subst this
              exact ⟨fun z => Loc.noConfusion z, fun k q => by cases q; exact z rfl⟩) (fun r' j' z => by cases z; exact hr) rfl rfl
          (fun k s' es => .inl ⟨es, rfl, fun l' hl => by
            have : l' = .fl r j := hl.elim id id
            subst this
            exact fun z => Loc.noConfusion z⟩) (fun k z => Loc.noConfusion z)
        rw [eo] at RR
        rw [hh]
        refine ⟨RR, fun {o0 h0 H0 q} B hq => ?_⟩
        have BB := Bd.chg (T := fun l' => l' = .fl r j) (l0 := .fl r j) (oa := o (.fl r j)) (h' := h.set r (.ins c' (fs.set j s))) (H' := upd H a ob) B R.toRelH (fun r z => Loc.noConfusion z) (fun p hp => .inl hp) kp (by simp) fun z => by
          obtain ⟨i, q⟩ := hq z
          cases q
        rw [eo] at BB
        exact BB
  | ob r =>
    have eo : setO o (.fl r 0) (o (.fl r 0)) = o := setO_self
    simp only [getL] at e
    cases er : h[r]? with
    | none => rw [er] at e; cases e
    | some m =>
      rw [er] at e
      have hr : r < h.length := (List.getElem?_eq_some_iff.mp er).1
      have hf : ∀ j, o (.fl r j) = none := by
        obtain ⟨a0, e0, y⟩ := R.ob r _ er
        cases m with
        | ins c fs => cases e
        | lst xs => exact y.2
        | dic xs => exact y.2
      have main : ∀ m', ObR P A o h.length (upd H a ob) r m' → Rel P A o env (h.set r m') σ (upd H a ob) ∧ ∀ {o0 h0 H0 q}, Bd A o0 h0 H0 q o h H → (q = true → ∃ i, Loc.ob r = .sl i) → Bd A o0 h0 H0 q o (h.set r m') (upd H a ob) := fun m' om => by
        have RR := Rel.chg (T := fun l' => l' = .ob r) (l0 := .fl r 0) (oa := o (.fl r 0)) (h' := h.set r m') (H' := upd H a ob) (env' := env) (σ' := σ) R (fun r z => Loc.noConfusion z) (fun p hp => .inl hp) kp nn (by simp)
          (fun r' m em => by
            by_cases z : r = r'
            · subst z
              right
              rw [List.getElem?_set_self hr] at em
              cases em
              rw [eo]
              exact om
            · left
              rw [List.getElem?_set_ne z] at em
              refine ⟨em, fun l' hl => ?_⟩
              rcases hl with hl | hl
              · subst hl
                exact ⟨fun q => by cases q; exact z rfl, fun k q => Loc.noConfusion q⟩
              · subst hl
                exact ⟨fun z => Loc.noConfusion z, fun k q => by cases q; exact z rfl⟩) (fun r' j' z => by cases z; exact hr) rfl rfl
          (fun k s' es => .inl ⟨es, rfl, fun l' hl => by
            rcases hl with hl | hl <;> subst hl <;> exact fun z => Loc.noConfusion z⟩) (fun k z => Loc.noConfusion z)
        rw [eo] at RR
        refine ⟨RR, fun {o0 h0 H0 q} B hq => ?_⟩
        have BB := Bd.chg (T := fun l' => l' = .ob r) (l0 := .fl r 0) (oa := o (.fl r 0)) (h' := h.set r m') (H' := upd H a ob) B R.toRelH (fun r z => Loc.noConfusion z) (fun p hp => .inl hp) kp (by simp) fun z => by
          obtain ⟨i, q⟩ := hq z
          cases q
        rw [eo] at BB
        exact BB
      cases s with
      | un => exact c.elim
      | val d => exact c.elim
      | ol xs =>
        obtain ⟨vs, rfl, rr⟩ := c
        exact main (.lst xs) ⟨a, ea, ⟨vs, upd_same, rr.stay (st _)⟩, hf⟩
      | od kvs =>
        obtain ⟨mm, rfl, rr⟩ := c
        exact main (.dic kvs) ⟨a, ea, ⟨_, .inl ⟨mm, upd_same, rfl⟩, rr.stay (st _)⟩, hf⟩
end
end MP

set_option Elab.async false
set_option linter.all false
set_option maxRecDepth 100000
set_option maxHeartbeats 4000000
namespace MP
open PySem PySem.Spec PyProof.Rows L2
section
variable {P : Pm} {Γ : Tab} {M : Mo} {S : Sm} {pf : Nat → Bool} {A : Addr → Prop} {o o' : Loc → Option Addr} {h h' : MH} {H H' Hm : Hp} {env env' : MEnv} {σ σ' : L2.St} {W : WX} {α β : Type} {o0 : Loc → Option Addr} {h0 : MH} {H0 : Hp} {q : Bool}
/-- a slot of one's own list -/
theorem own_new (R : Rel P A o env h σ H) {i : Nat} {p : Addr} {s : Sl} {ob : HO} (hi : i < env.length) (hp : H p = none) (c : CtS P (UU A o) (rho o) h.length H s ob) :
    Rel P A (setO o (.sl i) (some p)) (env.set i s) h (σ.set i (some (.ref p))) (upd H p ob) ∧ ∀ {o0 h0 H0 q}, Bd A o0 h0 H0 q o h H → Bd A o0 h0 H0 q (setO o (.sl i) (some p)) h (upd H p ob) := by
  have ne : ∀ {b}, H b ≠ none → b ≠ p := fun e z => e (by rw [z]; exact hp)
  have kp : ∀ b, H b ≠ none → (upd H p ob) b = H b ∨ ∃ l', o l' = some b ∧ False := fun b hb => .inl (upd_ne (ne hb))
  have ow : ∀ p', some p = some p' → o (.sl i) = some p' ∨ (H p' = none ∧ (upd H p ob) p' ≠ none) := fun p' e => by
    cases e
    exact .inr ⟨hp, by rw [upd_same]; exact fun z => nomatch z⟩
  have st := chg_stay (T := fun _ => False) (l0 := .sl i) (oa := some p) (H' := upd H p ob) h.length R.toRelH (fun r z => Loc.noConfusion z) (fun p' e => (ow p' e).imp id And.left) kp
  refine ⟨Rel.chg (T := fun _ => False) (h' := h) R (fun r z => Loc.noConfusion z) ow kp (fun b hb => by rw [upd_ne (ne hb)]; exact hb) rfl (fun r m em => .inl ⟨em, fun l hl => by
      have : l = .sl i := hl.elim False.elim id
      subst this
      exact ⟨fun z => Loc.noConfusion z, fun j z => Loc.noConfusion z⟩⟩) (fun r j z => Loc.noConfusion z) (by simp) (by simp) (fun k s' es => ?_) (fun k z => by cases z; exact hi), fun {o0 h0 H0 q} B => Bd.chg (T := fun _ => False) (h' := h) B R.toRelH (fun r z => Loc.noConfusion z) ow kp rfl fun _ => ⟨rfl, ⟨i, rfl⟩, fun l hl => hl.elim⟩⟩
  by_cases z : i = k
  · subst z
    right
    have : s' = s := by
      rw [List.getElem?_set_self hi] at es
      exact (Option.some.inj es).symm
    subst this
    rw [setO_same]
    have hi' : i < σ.length := by rw [← R.len]; exact hi
    have ev : (σ.set i (some (V.ref p))).getD i none = some (.ref p) := by simp [List.getD_eq_getElem?_getD, List.getElem?_set_self hi']
    rw [ev]
    cases s' with
    | un => exact c.elim
    | val d => exact c.elim
    | ol xs =>
      obtain ⟨vs, rfl, r⟩ := c
      exact ⟨p, vs, rfl, rfl, upd_same, r.stay st⟩
    | od kvs =>
      obtain ⟨m, rfl, r⟩ := c
      exact ⟨p, _, rfl, rfl, .inl ⟨m, upd_same, rfl⟩, r.stay st⟩
  · left
    rw [List.getElem?_set_ne z] at es
    refine ⟨es, by simp [List.getD_eq_getElem?_getD, List.getElem?_set_ne z], fun l hl => ?_⟩
    have : l = .sl i := hl.elim False.elim id
    subst this
    exact fun q => by cases q; exact z rfl
/-- a field -/
theorem fld_put (R : Rel P A o env h σ H) {r j c : Nat} {fs : List Sl} {a dx : Addr} {gs : List (Str × V)} {oa : Option Addr} {s : Sl} {v : V} (nd : (P.nm c).Nodup) (er : h[r]? = some (.ins c fs)) (ea : o (.ob r) = some a) (hj : j < fs.length) (hm : ∀ b, H b ≠ none → Hm b = H b)
    (em : Hm a = some (.ins (P.ca c) dx gs)) (ow : ∀ p, oa = some p → H p = none ∧ Hm p ≠ none) (ns : s ≠ .un)
    (hs : ∀ {H'}, Stay (UU A o) (UU A (setO o (.fl r j) oa)) (rho o) (rho (setO o (.fl r j) oa)) h.length h.length H H' → (∀ p, oa = some p → H' p = Hm p) → SlR P A (setO o (.fl r j) oa) h.length H' oa s (some v)) :
    Rel P A (setO o (.fl r j) oa) env (h.set r (.ins c (fs.set j s))) σ (upd Hm a (.ins (P.ca c) dx (putF ((P.nm c).getD j "") v gs))) ∧ ∀ {o0 h0 H0}, Bd A o0 h0 H0 false o h H → Bd A o0 h0 H0 false (setO o (.fl r j) oa) (h.set r (.ins c (fs.set j s))) (upd Hm a (.ins (P.ca c) dx (putF ((P.nm c).getD j "") v gs))) := by
  have kp : ∀ b, H b ≠ none → (upd Hm a (.ins (P.ca c) dx (putF ((P.nm c).getD j "") v gs))) b = H b ∨ ∃ l', o l' = some b ∧ l' = .ob r := fun b hb => by
    by_cases z : b = a
    · subst z
      exact .inr ⟨_, ea, rfl⟩
    · exact .inl ((upd_ne z).trans (hm b hb))
  have na : ∀ p, oa = some p → p ≠ a := fun p e z => by
    have := (ow p e).1
    rw [z] at this
    exact R.ol _ a ea this
  have ow' : ∀ p, oa = some p → o (.fl r j) = some p ∨ (H p = none ∧ (upd Hm a (.ins (P.ca c) dx (putF ((P.nm c).getD j "") v gs))) p ≠ none) := fun p e => .inr ⟨(ow p e).1, by rw [upd_ne (na p e)]; exact (ow p e).2⟩
  have nn : ∀ b, H b ≠ none → (upd Hm a (.ins (P.ca c) dx (putF ((P.nm c).getD j "") v gs))) b ≠ none := fun b hb => by
    by_cases z : b = a
    · subst z
      rw [upd_same]
      exact fun z => nomatch z
    · rw [upd_ne z, hm b hb]
      exact hb
  have st := chg_stay (T := fun l => l = .ob r) (l0 := .fl r j) (oa := oa) h.length R.toRelH (fun r z => Loc.noConfusion z) (fun p' e => (ow' p' e).imp id And.left) kp
  have hr : r < h.length := (List.getElem?_eq_some_iff.mp er).1
  refine ⟨Rel.chg (T := fun l => l = .ob r) (h' := h.set r (.ins c (fs.set j s))) R (fun r z => Loc.noConfusion z) ow' kp nn (by simp) (fun r' m em' => ?_) (fun r' j' z => by cases z; exact hr) rfl rfl
    (fun k s' es => .inl ⟨es, rfl, fun l hl => by rcases hl with hl | hl <;> subst hl <;> exact fun z => Loc.noConfusion z⟩) (fun k z => Loc.noConfusion z),
    fun {o0 h0 H0} B => Bd.chg (T := fun l => l = .ob r) (h' := h.set r (.ins c (fs.set j s))) B R.toRelH (fun r z => Loc.noConfusion z) ow' kp (by simp) fun z => nomatch z⟩
  by_cases z : r = r'
  · subst z
    right
    rw [List.getElem?_set_self hr] at em'
    cases em'
    obtain ⟨a0, e0, dx0, gs0, y1, y2, y3, y4, y5, y6⟩ := R.ob r _ er
    rw [ea] at e0
    cases e0
    have eh : Hm a = H a := hm a (R.ol _ a ea)
    rw [eh, y1] at em
    cases em
    have hjn : j < (P.nm c).length := by rw [← y3]; exact hj
    have inm : (P.nm c).getD j "" ∈ P.nm c := by
      rw [List.getD_eq_getElem?_getD, List.getElem?_eq_getElem hjn]
      exact List.getElem_mem hjn
    refine ⟨a, (setO_ne fun z => Loc.noConfusion z).trans ea, dx, _, upd_same, fun x hx => ?_, by simpa using y3, ?_, fun k s' es => ?_, fun k hk => ?_⟩
    · rw [lookup_putF, if_neg (fun z => hx (by rw [z]; exact inm))]
      exact y2 x hx
    · obtain ⟨c1, c2⟩ := cntS_set ns fs j
      obtain ⟨p1, p2⟩ := putF_len ((P.nm c).getD j "") v gs
      cases eg : gs.lookup ((P.nm c).getD j "") with
      | some u =>
        rw [p2 u eg]
        exact Nat.le_trans y4 c1
      | none =>
        have hun : fs[j]? = some .un := by
          rw [List.getElem?_eq_getElem hj]
          congr 1
          have := (y5 j _ (List.getElem?_eq_getElem hj)).1
          rw [eg] at this
          cases es : fs[j] with
          | un => rfl
          | val d => rw [es] at this; obtain ⟨_, x, e, _⟩ := this; cases e
          | ol d => rw [es] at this; obtain ⟨_, _, e, _⟩ := this; cases e
          | od d => rw [es] at this; obtain ⟨_, _, e, _⟩ := this; cases e
        have := c2 hun
        omega
    · by_cases z : j = k
      · subst z
        have : s' = s := by
          rw [List.getElem?_set_self hj] at es
          exact (Option.some.inj es).symm
        subst this
        rw [lookup_putF, if_pos rfl, setO_same]
        exact ⟨hs st fun p e => upd_ne (na p e), fun z => (ns z).elim⟩
      · rw [List.getElem?_set_ne z] at es
        have hk : k < (P.nm c).length := by
          rw [← y3]
          exact (List.getElem?_eq_some_iff.mp es).1
        have nk : (P.nm c).getD k "" ≠ (P.nm c).getD j "" := fun q => by
          rw [List.getD_eq_getElem?_getD, List.getD_eq_getElem?_getD, List.getElem?_eq_getElem hk, List.getElem?_eq_getElem hjn] at q
          rcases Nat.lt_or_gt_of_ne z with y | y
          · exact List.pairwise_iff_getElem.mp nd _ _ hjn hk y q.symm
          · exact List.pairwise_iff_getElem.mp nd _ _ hk hjn y q
        rw [lookup_putF, if_neg nk, setO_ne fun q => by cases q; exact z rfl]
        refine ⟨(y5 k s' es).1.stay st fun b hb => ?_, (y5 k s' es).2⟩
        rcases kp b (R.ol _ b hb) with q | ⟨l', q, t⟩
        · exact q
        · have := R.inj _ _ _ hb q
          rw [t] at this
          cases this
    · rw [setO_ne fun q => by
        cases q
        simp at hk
        omega]
      exact y6 k (by simpa using hk)
  · left
    rw [List.getElem?_set_ne z] at em'
    refine ⟨em', fun l hl => ?_⟩
    rcases hl with hl | hl
    · subst hl
      exact ⟨fun q => by cases q; exact z rfl, fun k q => Loc.noConfusion q⟩
    · subst hl
      exact ⟨fun q => Loc.noConfusion q, fun k q => by cases q; exact z rfl⟩
def boxM : Sl → MObj
  | .ol xs => .lst xs
  | .od kvs => .dic kvs
  | _ => .lst []
/-- a new list, a new dict that others hold, too -/
theorem new_box (R : Rel P A o env h σ H) {p : Addr} {s : Sl} {ob : HO} {m : MObj} (hp : H p = none) (c : CtS P (UU A o) (rho o) h.length H s ob) (hm : m = boxM s) :
    Rel P A (setO o (.ob h.length) (some p)) env (h ++ [m]) σ (upd H p ob) ∧ Stp A o h H (setO o (.ob h.length) (some p)) (h ++ [m]) (upd H p ob) := by
  have ne : ∀ {a}, H a ≠ none → a ≠ p := fun e z => e (by rw [z]; exact hp)
  have eH : ∀ {a}, H a ≠ none → (upd H p ob) a = H a := fun e => upd_ne (ne e)
  have o0 : o (.ob h.length) = none := (R.far _ (Nat.le_refl _)).1
  have st : Stp A o h H (setO o (.ob h.length) (some p)) (h ++ [m]) (upd H p ob) := by
    refine ⟨fun a e u => ⟨eH e, fun z => ((uu_set o0).mp z).elim u (ne e)⟩, fun i => setO_ne (fun z => Loc.noConfusion z), fun i a e => eH (R.ol _ a e), fun a u => eH (R.live a u), fun r hr => setO_ne (fun z => ?_), by simp⟩
    cases z
    exact Nat.lt_irrefl _ hr
  have stay := st.stay
  have RH : RelH P A (setO o (.ob h.length) (some p)) (h ++ [m]) (upd H p ob) := by
    refine ⟨fun l l' a e e' => ?_, fun l a e u => ?_, fun a u => by rw [eH (R.live a u)]; exact R.live a u, fun l a e => ?_, fun r m' e => ?_, fun r hr => ?_⟩
    · by_cases z : l = .ob h.length
      · by_cases z' : l' = .ob h.length
        · rw [z, z']
        · rw [z, setO_same] at e
          cases e
          rw [setO_ne z'] at e'
          exact ((ne (R.ol _ _ e')) rfl).elim
      · rw [setO_ne z] at e
        by_cases z' : l' = .ob h.length
        · rw [z', setO_same] at e'
          cases e'
          exact ((ne (R.ol _ _ e)) rfl).elim
        · rw [setO_ne z'] at e'
          exact R.inj _ _ _ e e'
    · by_cases z : l = .ob h.length
      · rw [z, setO_same] at e
        cases e
        exact (ne (R.live _ u)) rfl
      · rw [setO_ne z] at e
        exact R.apart l a e u
    · by_cases z : l = .ob h.length
      · rw [z, setO_same] at e
        cases e
        rw [upd_same]
        exact fun z => nomatch z
      · rw [setO_ne z] at e
        rw [eH (R.ol l a e)]
        exact R.ol l a e
    · by_cases hr : r < h.length
      · rw [List.getElem?_append_left hr] at e
        refine ObR.stay stay ?_ (fun j => setO_ne (fun z => Loc.noConfusion z)) (fun l a e _ => eH (R.ol l a e)) (R.ob r m' e)
        exact setO_ne (fun z => by cases z; exact Nat.lt_irrefl _ hr)
      · have hr2 : r = h.length := by
          have := (List.getElem?_eq_some_iff.mp e).1
          simp at this
          omega
        subst hr2
        simp at e
        subst e
        have hf : ∀ j, setO o (.ob h.length) (some p) (.fl h.length j) = none := fun j => by
          rw [setO_ne (fun z => Loc.noConfusion z)]
          exact (R.far _ (Nat.le_refl _)).2 j
        refine ⟨p, setO_same, ?_⟩
        cases s with
        | un => exact c.elim
        | val d => exact c.elim
        | ol xs =>
          subst hm
          obtain ⟨vs, rfl, rr⟩ := c
          exact ⟨⟨vs, upd_same, rr.stay stay⟩, hf⟩
        | od kvs =>
          subst hm
          obtain ⟨l, rfl, rr⟩ := c
          exact ⟨⟨_, .inl ⟨l, upd_same, rfl⟩, rr.stay stay⟩, hf⟩
    · simp at hr
      rw [setO_ne (fun z => by cases z; omega)]
      refine ⟨(R.far r (by omega)).1, fun j => ?_⟩
      rw [setO_ne (fun z => Loc.noConfusion z)]
      exact (R.far r (by omega)).2 j
  exact ⟨R.step st RH, st⟩
/-- a step that only lets slots go -/
theorem Bd.drop {L : List Nat} (B : Bd A o0 h0 H0 q o h H) : Bd A o0 h0 H0 q (dropS L o) h H :=
  ⟨fun a e u => ⟨(B.keep a e u).1, fun z => (B.keep a e u).2 (z.imp id fun ⟨l, y⟩ => ⟨l, dropS_le y⟩)⟩, B.ak, B.ob, B.len, fun z => ⟨(B.pu z).1, (B.pu z).2.1, (B.pu z).2.2.1, (B.pu z).2.2.2.1, fun i a e => (B.pu z).2.2.2.2 i a (dropS_le e)⟩⟩
theorem Bd.same (B : Bd A o0 h0 H0 q o h H) (R : RelH P A o h H) (s : Same H H') : Bd A o0 h0 H0 q o h H' := B.step (Stp.same R s) fun _ => Pure.same s
end
end MP

set_option Elab.async false
set_option linter.all false
set_option maxRecDepth 100000
set_option maxHeartbeats 4000000
namespace MP
open PySem PySem.Spec PyProof.Rows L2
section
variable {P : Pm} {Γ : Tab} {M : Mo} {S : Sm} {pf : Nat → Bool} {A : Addr → Prop} {o o' : Loc → Option Addr} {h h' : MH} {H H' Hm : Hp} {env env' : MEnv} {σ σ' : L2.St} {W : WX} {α β : Type} {o0 : Loc → Option Addr} {h0 : MH} {H0 : Hp} {q : Bool} {De : Ends}
theorem exK_app {e o a : E} (h : exK e = some (true, o, a)) : e = .bm .append o (.cons a .nil) := by
  unfold exK at h
  split at h <;> simp at h
  obtain ⟨rfl, rfl⟩ := h
  rfl
theorem exK_ext {e o a : E} (h : exK e = some (false, o, a)) : e = .bm .extend o (.cons a .nil) := by
  unfold exK at h
  split at h <;> simp at h
  obtain ⟨rfl, rfl⟩ := h
  rfl
theorem varK_var {e : E} {i : Nat} (h : varK e = some i) : e = .var i := by
  unfold varK at h
  split at h <;> simp at h
  rw [h]
variable (P Γ M S pf) in
def SimS (fu : Nat) (s : MP.S) : Prop := wfS pf s = true → ∀ (W : WX) A o0 h0 H0 q o env h σ H De, (q = true → puS pf s = true) → Rel P A o env h σ H → Bd A o0 h0 H0 q o h H → PostS P W A o0 h0 H0 q De (exec S fu s env h) → wpS Γ M s W De σ H
variable (P Γ M S pf) in
def SimB (fu : Nat) (s : Sb) : Prop := wfB pf s = true → ∀ (W : WX) A o0 h0 H0 q o env h σ H De, (q = true → puB pf s = true) → Rel P A o env h σ H → Bd A o0 h0 H0 q o h H → PostS P W A o0 h0 H0 q De (execB S fu s env h) → wpB Γ M s W De σ H
theorem var_get {i : Nat} {s : Sl} {u : V} (R : Rel P A o env h σ H) (es : env[i]? = some s) (eu : σ.getD i none = some u) : σ[i]? = some (some u) := by
  have hi : i < σ.length := by rw [← R.len]; exact (List.getElem?_eq_some_iff.mp es).1
  rw [List.getD_eq_getElem?_getD] at eu
  simp [hi] at eu ⊢
  exact eu
theorem ref_at (R : RelH P A o h H) {r : Nat} {m : MObj} {v : V} (er : h[r]? = some m) (x : Rp P (UU A o) (rho o) h.length H (.ref r) v) : ∃ a, v = .ref a ∧ o (.ob r) = some a := by
  obtain ⟨a, e1, e2, _⟩ := ref_ob R er x
  exact ⟨a, e1, e2⟩
theorem ins_at (R : RelH P A o h H) {r c : Nat} {fs : List Sl} {a : Addr} (er : h[r]? = some (.ins c fs)) (ea : o (.ob r) = some a) : ∃ dx gs, H a = some (.ins (P.ca c) dx gs) ∧ fs.length = (P.nm c).length ∧ gs.length ≤ fs.length := by
  obtain ⟨a0, e0, dx, gs, y1, y2, y3, y4, _⟩ := R.ob r _ er
  rw [ea] at e0
  cases e0
  exact ⟨dx, gs, y1, y3, Nat.le_trans y4 (cntS_le fs)⟩
theorem sim_set (SO : SmOk P Γ M S pf) (fu i : Nat) (e : E) (al : Al) : SimS P Γ M S pf fu (.set i e al) := fun w W A o0 h0 H0 q o env h σ H De hq R B x => by
  rw [wpS]
  rw [exec] at x
  simp only [wfS, Bool.and_eq_true, Bool.or_eq_true, decide_eq_true_eq] at w
  have hq' : q = true → pu pf e = true := fun z => by
    have := hq z
    simp only [puS, Bool.and_eq_true] at this
    exact this.1
  cases al with
  | val =>
    refine (sE SO e).1 w.1 W false A o env h σ H _ R (PostS.sub B x hq' fun d o1 h1 H1 e1 R1 S1 P1 B1 x1 v rv => ?_)
    split at x1
    · rename_i hi
      exact x1 _ _ _ (R1.put hi rv.val) B1.drop
    · exact x1.elim
  | own =>
    have f : frs e = true := w.2.elim (fun z => by cases z) id
    refine sF SO e f w.1 W false A o env h σ H _ R (PostS.sub B x hq' fun d o1 h1 H1 e1 R1 S1 P1 B1 x1 => ?_)
    split at x1
    · rename_i hi
      cases d <;> first | exact x1.elim | skip
      · refine ⟨rfl, fun p ob hp c => ?_⟩
        rename_i xs
        obtain ⟨RR, BB⟩ := own_new R1 hi hp (s := .ol xs) c
        exact x1 _ _ _ RR (BB B1)
      · refine ⟨rfl, fun p ob hp c => ?_⟩
        rename_i xs
        obtain ⟨RR, BB⟩ := own_new R1 hi hp (s := .od xs) c
        exact x1 _ _ _ RR (BB B1)
    · exact x1.elim
  | obj =>
    have f : frs e = true := w.2.elim (fun z => by cases z) id
    have q0 : q = false := by
      cases q with
      | false => rfl
      | true =>
        have := hq rfl
        simp [puS] at this
    subst q0
    refine sF SO e f w.1 W false A o env h σ H _ R (PostS.sub B x hq' fun d o1 h1 H1 e1 R1 S1 P1 B1 x1 => ?_)
    split at x1
    · rename_i hi
      have fin : ∀ {s m p ob}, H1 p = none → CtS P (UU A o1) (rho o1) h1.length H1 s ob → m = boxM s → PostS P W A o0 h0 H0 false De (.nx (env.set i (.val (.ref h1.length))) (h1 ++ [m])) → De.nx (σ.set i (some (.ref p))) (upd H1 p ob) := by
        intro s m p ob hp c em x2
        obtain ⟨RR, SS⟩ := new_box R1 hp c em
        refine x2 _ _ _ (RR.put hi ?_) (B1.step SS fun z => nomatch z).drop
        unfold Rp
        refine ⟨by simp, ?_⟩
        unfold rho
        rw [setO_same]
        rfl
      cases d <;> first | exact x1.elim | skip
      · rename_i xs
        exact ⟨rfl, fun p ob hp c => fin (s := .ol xs) hp c rfl x1⟩
      · rename_i xs
        exact ⟨rfl, fun p ob hp c => fin (s := .od xs) hp c rfl x1⟩
    · exact x1.elim
theorem sim_setf (SO : SmOk P Γ M S pf) (fu c j : Nat) (ob e : E) (al : Al) : SimS P Γ M S pf fu (.setf c j ob e al) := fun w W A o0 h0 H0 q o env h σ H De hq R B x => by
  have q0 : q = false := by
    cases q with
    | false => rfl
    | true =>
      have := hq rfl
      simp [puS] at this
  subst q0
  rw [wpS]
  simp only [wfS, Bool.and_eq_true] at w
  cases al with
  | val =>
    rw [exec] at x
    have w2 : wf pf ob = true := w.2
    refine (sE SO e).1 w.1 W false A o env h σ H _ R (PostS.sub B x (fun z => nomatch z) fun d o1 h1 H1 e1 R1 S1 P1 B1 x1 v rv => ?_)
    refine (sE SO ob).1 w2 W false A o1 env h1 σ H1 _ R1 (PostS.sub B1 x1 (fun z => nomatch z) fun d2 o2 h2 H2 e2 R2 S2 P2 B2 x2 u ru => ?_)
    split at x2
    · rename_i r
      split at x2
      · rename_i c' fs er
        split at x2
        · rename_i hc
          obtain ⟨rfl, hj⟩ := hc
          obtain ⟨a, rfl, ea⟩ := ref_at R2.toRelH er ru.val
          obtain ⟨dx, gs, y1, y2, y3⟩ := ins_at R2.toRelH er ea
          have hjn : j < (Γ.cl c').fields.length := by rw [y2, SO.nm] at hj; exact hj
          obtain ⟨f1, f2⟩ := SO.fld c' j hjn
          have RR := fld_put (s := .val d) (v := v) (oa := none) (Hm := H2) R2 (by rw [SO.nm]; exact SO.nd c') er ea hj (fun _ _ => rfl) y1 (fun p z => nomatch z) (fun z => nomatch z) (fun st _ => ⟨rfl, v, rfl, (rv.val.stay S2.stay).stay st⟩)
          rw [SO.ca, SO.nm] at RR
          rw [SO.ca] at y1
          refine ⟨a, _, dx, gs, rfl, y1, f1, f2, ?_, x2 _ _ _ RR.1 (RR.2 B2)⟩
          have := SO.few c'
          rw [y2, SO.nm] at y3
          exact Nat.lt_of_le_of_lt y3 this
        · exact x2.elim
      · exact x2.elim
    · exact x2.elim
  | own =>
    rw [exec] at x
    have f : frs e = true := w.2
    refine sF SO e f w.1 W false A o env h σ H _ R (PostS.sub B x (fun z => nomatch z) fun d o1 h1 H1 e1 R1 S1 P1 B1 x1 => ?_)
    split at x1
    · rename_i k ek
      split at x1
      · rename_i r es
        split at x1
        · rename_i c' fs er
          split at x1
          · rename_i hc
            obtain ⟨rfl, hj⟩ := hc
            obtain ⟨_, u, eu, ru⟩ := R1.sl k _ es
            obtain ⟨a, rfl, ea⟩ := ref_at R1.toRelH er ru
            obtain ⟨dx, gs, y1, y2, y3⟩ := ins_at R1.toRelH er ea
            have hjn : j < (Γ.cl c').fields.length := by rw [y2, SO.nm] at hj; exact hj
            obtain ⟨f1, f2⟩ := SO.fld c' j hjn
            have lt1000 : gs.length < 1000 := by
              have := SO.few c'
              rw [y2, SO.nm] at y3
              exact Nat.lt_of_le_of_lt y3 this
            have fin : ∀ {s p hb}, H1 p = none → s ≠ .un → CtS P (UU A o1) (rho o1) h1.length H1 s hb → PostS P W A o0 h0 H0 false De (.nx env (h1.set r (.ins c' (fs.set j s)))) →
                (wp Γ M ob W).e σ (upd H1 p hb) fun x H2 => ∃ a C dx fs, x = V.ref a ∧ H2 a = some (.ins C dx fs) ∧ Cls M.K C ∧ NoAttr M.K C ((Γ.cl c').fields.getD j "") ∧ fs.length < 1000 ∧ De.nx σ (upd H2 a (.ins C dx (putF ((Γ.cl c').fields.getD j "") (.ref p) fs))) := by
              intro s p hb hp ns cc x2
              have hna : a ≠ p := fun z => R1.ol _ a ea (by rw [z]; exact hp)
              have RR := fld_put (s := s) (v := .ref p) (oa := some p) (Hm := upd H1 p hb) R1 (by rw [SO.nm]; exact SO.nd c') er ea hj (fun b hb => upd_ne fun z => hb (by rw [z]; exact hp)) ((upd_ne hna).trans y1)
                (fun p' z => by cases z; exact ⟨hp, by rw [upd_same]; exact fun z => nomatch z⟩) ns (fun {H'} st hp' => by
                  have e1 : H' p = some hb := (hp' p rfl).trans upd_same
                  cases s with
                  | un => exact cc.elim
                  | val d => exact cc.elim
                  | ol xs =>
                    obtain ⟨vs, rfl, rr⟩ := cc
                    exact ⟨p, vs, rfl, rfl, e1, rr.stay st⟩
                  | od xs =>
                    obtain ⟨vs, rfl, rr⟩ := cc
                    exact ⟨p, _, rfl, rfl, .inl ⟨vs, e1, rfl⟩, rr.stay st⟩)
              rw [SO.ca, SO.nm] at RR
              rw [SO.ca] at y1
              rw [varK_var ek, wp]
              exact ⟨_, var_get R1 es eu, a, _, dx, gs, rfl, (upd_ne hna).trans y1, f1, f2, lt1000, x2 _ _ _ RR.1 (RR.2 B1)⟩
            cases d <;> first | exact x1.elim | skip
            · rename_i xs
              exact ⟨rfl, fun p ob hp c => fin (s := .ol xs) hp (fun z => nomatch z) c x1⟩
            · rename_i xs
              exact ⟨rfl, fun p ob hp c => fin (s := .od xs) hp (fun z => nomatch z) c x1⟩
          · exact x1.elim
        · exact x1.elim
      · exact x1.elim
    · exact x1.elim
  | obj => exact x.elim
theorem dic_at (R : Rel P A o env h σ H) {l : Loc} {kvs : List (KK × D)} {a : Addr} {k : D} {kk : KK} {u : V} (e : getL env h l = some (.od kvs)) (ea : o l = some a) (ru : Rp P (UU A o) (rho o) h.length H k u) (ek : k.key = some kk) (c : (KK.flat kk && kinds true kvs && lim (kvs.length + 1)) = true) :
    ∃ (m : List (Key × V)) (k0 : Key), H a = some (.dK m) ∧ u = kV k0 ∧ kk = .inl k0 ∧ m.length < sizeLine ∧ Rkv P (UU A o) (rho o) h.length H kvs (m.map fun p => (.inl p.1, p.2)) ∧
      ∀ {d v}, Rp P (UU A o) (rho o) h.length H d v → CtS P (UU A o) (rho o) h.length H (.od (kput kvs kk d)) (.dK (putK m k0 v)) := by
  simp only [Bool.and_eq_true] at c
  obtain ⟨⟨c1, c2⟩, c3⟩ := c
  obtain ⟨ws, hd, rk⟩ := at_place R e ea
  obtain ⟨m, e1, rfl⟩ := hd.flat rk c2
  cases kk with
  | inr _ => cases c1
  | inl k0 =>
    refine ⟨m, k0, e1, key_of ek ru.top, rfl, ?_, rk, fun {d v} rv => ⟨_, rfl, ?_⟩⟩
    · have := congrArg List.length rk.keys
      simp at this
      have := lim_le c3
      omega
    · rw [← vput_inl]
      exact rk.put rv
theorem sim_seti (SO : SmOk P Γ M S pf) (fu : Nat) (ob i e : E) : SimS P Γ M S pf fu (.seti ob i e) := fun w W A o0 h0 H0 q o env h σ H De hq R B x => by
  have q0 : q = false := by
    cases q with
    | false => rfl
    | true =>
      have := hq rfl
      simp [puS] at this
  subst q0
  rw [wpS]
  rw [exec] at x
  simp only [wfS, Bool.and_eq_true] at w
  obtain ⟨⟨⟨w1, w2⟩, w3⟩, w4⟩ := w
  generalize eD : (∃ l h2 d h1 kvs, ev S e false env h = .ok d h1 ∧ evP S ob env h1 = .ok l h2 ∧ getL env h2 l = some (.od kvs)) = isD
  have x0 : Post P W A o env h σ H (pu pf e) (ev S e false env h) (GE P A (fun v H1 => (wp Γ M ob W).e σ H1 fun ov H2 => (wp Γ M i W).e σ H2 fun iv H3 => (¬ isD → rSetL ov iv v H3 fun H4 => De.nx σ H4) ∧ (isD → ∃ a H4, ov = .ref a ∧ DPut H3 a iv v H4 ∧ De.nx σ H4)) (false && bor e)) := by
    refine PostS.sub B x (fun z => nomatch z) fun d o1 h1 H1 e1 R1 S1 P1 B1 x1 v rv => ?_
    refine sP SO ob w2 R1 (PostS.sub B1 x1 (fun z => nomatch z) fun l o2 h2 H2 e2 R2 S2 P2 B2 x2 a ea => ?_)
    refine (sE SO i).1 w3 W false A o2 env h2 σ H2 _ R2 (PostS.sub B2 x2 (fun z => nomatch z) fun k o3 h3 H3 e3 R3 S3 P3 B3 x3 u ru => ?_)
    obtain ⟨rfl, rfl, s3⟩ := P3 w4
    have rv' := ((show Rp P (UU A o1) (rho o1) h1.length H1 d v from rv.val).stay S2.stay).stay S3.stay
    split at x3
    · rename_i xs eg
      have nd : ¬ isD := by
        rw [← eD]
        rintro ⟨l', h2', d', h1', kvs, z1, z2, z3⟩
        rw [e1] at z1
        cases z1
        rw [e2] at z2
        cases z2
        rw [eg] at z3
        cases z3
      refine ⟨fun _ => ?_, fun z => (nd z).elim⟩
      split at x3
      · rename_i j
        split at x3
        · rename_i n en
          obtain ⟨vs, y1, y2⟩ := at_place R3 eg ea
          have eu : u = .int j := ru.top.int
          subst eu
          obtain ⟨RR, BB⟩ := put_place R3 (s := .ol (xs.set n d)) (ob := .lst (vs.set n v)) eg ea ⟨_, rfl, y2.set n rv'⟩
          exact ⟨a, vs, j, n, rfl, rfl, y1, by rw [y2.len]; exact en, x3 _ _ _ RR (BB B3 fun z => nomatch z)⟩
        · exact x3.elim
      · exact x3.elim
    · rename_i kvs eg
      have yd : isD := by
        rw [← eD]
        exact ⟨_, _, _, _, _, e1, e2, eg⟩
      refine ⟨fun z => (z yd).elim, fun _ => ?_⟩
      split at x3
      · rename_i kk ek
        split at x3
        · rename_i hc
          obtain ⟨m, k0, y1, rfl, rfl, y2, y3, y4⟩ := dic_at R3 eg ea ru.val ek hc
          obtain ⟨RR, BB⟩ := put_place R3 (s := .od (kput kvs (.inl k0) d)) eg ea (y4 rv')
          exact ⟨a, _, rfl, DPut.k y1 y2, x3 _ _ _ RR (BB B3 fun z => nomatch z)⟩
        · exact x3.elim
      · exact x3.elim
    · exact x3.elim
  by_cases c : isD
  · refine .inr ((sE SO e).1 w1 W false A o env h σ H _ R (Post.imp x0 id fun d o1 h1 H1 e1 R1 S1 P1 g v rv => ?_))
    have := g v rv
    simp only [c, not_true_eq_false, false_implies, true_implies, true_and] at this
    exact this
  · refine .inl ((sE SO e).1 w1 W false A o env h σ H _ R (Post.imp x0 id fun d o1 h1 H1 e1 R1 S1 P1 g v rv => ?_))
    have := g v rv
    simp only [c, not_false_eq_true, false_implies, true_implies, and_true] at this
    exact this
theorem sim_aug (SO : SmOk P Γ M S pf) (fu i : Nat) (op : Bop) (e : E) : SimS P Γ M S pf fu (.aug i op e) := fun w W A o0 h0 H0 q o env h σ H De hq R B x => by
  rw [wpS]
  rw [exec] at x
  simp only [wfS] at w
  split at x
  · rename_i d es
    obtain ⟨_, u, eu, ru⟩ := R.sl i _ es
    refine ⟨u, var_get R es eu, ?_⟩
    refine (sE SO e).1 w W true A o env h σ H _ R (PostS.sub B x (fun z => by simpa [puS] using hq z) fun d2 o1 h1 H1 e1 R1 S1 P1 B1 x1 v rv => ?_)
    split at x1
    · rename_i z ez
      have hi : i < env.length := (List.getElem?_eq_some_iff.mp es).1
      exact rin2_ok ez (ru.stay S1.stay).top rv.top fun u' ru' => x1 _ _ _ (R1.put hi ru') B1.drop
    · exact x1.elim
  · exact x.elim
theorem sim_augf (SO : SmOk P Γ M S pf) (fu c j : Nat) (ob : E) (op : Bop) (e : E) : SimS P Γ M S pf fu (.augf c j ob op e) := fun w W A o0 h0 H0 q o env h σ H De hq R B x => by
  have q0 : q = false := by
    cases q with
    | false => rfl
    | true =>
      have := hq rfl
      simp [puS] at this
  subst q0
  rw [wpS]
  rw [exec] at x
  simp only [wfS, Bool.and_eq_true] at w
  refine (sE SO ob).1 w.1 W false A o env h σ H _ R (PostS.sub B x (fun z => nomatch z) fun d o1 h1 H1 e1 R1 S1 P1 B1 x1 v rv => ?_)
  split at x1
  · rename_i r
    split at x1
    · rename_i fv ef
      obtain ⟨a, dx, gs, u, rfl, y1, y2, y3, y4⟩ := fld_ok R1.toRelH ef rv.val
      have hjn : j < (Γ.cl c).fields.length := by rw [SO.nm] at y2; exact y2
      obtain ⟨f1, f2⟩ := SO.fld c j hjn
      have ea1 : o1 (.ob r) = some a := by
        have rr : Rp P (UU A o1) (rho o1) h1.length H1 (.ref r) (.ref a) := rv.val
        have hr : r < h1.length := by
          unfold Rp at rr
          exact rr.1
        obtain ⟨a', e1, e2⟩ := ref_at R1.toRelH (List.getElem?_eq_getElem hr) rr
        cases e1
        exact e2
      have hr1 : r < h1.length := by
        have rr : Rp P (UU A o1) (rho o1) h1.length H1 (.ref r) (.ref a) := rv.val
        unfold Rp at rr
        exact rr.1
      rw [SO.nm] at y3
      have y1' := y1
      rw [SO.ca] at y1'
      refine ⟨a, _, dx, gs, u, rfl, y1', f1, f2, y3, ?_⟩
      refine (sE SO e).1 w.2 W true A o1 env h1 σ H1 _ R1 (PostS.sub B1 x1 (fun z => nomatch z) fun d2 o2 h2 H2 e2 R2 S2 P2 B2 x2 v2 rv2 => ?_)
      split at x2
      · rename_i z c' fs ez er
        split at x2
        · rename_i hc
          obtain ⟨rfl, hj⟩ := hc
          have ea2 : o2 (.ob r) = some a := (S2.ob r hr1).trans ea1
          obtain ⟨dx2, gs2, t1, t2, t3⟩ := ins_at R2.toRelH er ea2
          refine rin2_ok ez (y4.val.stay S2.stay).top rv2.top fun u' ru' => ?_
          have RR := fld_put (s := .val z) (v := u') (oa := none) (Hm := H2) R2 (by rw [SO.nm]; exact SO.nd c') er ea2 hj (fun _ _ => rfl) t1 (fun p z => nomatch z) (fun z => nomatch z) (fun st _ => ⟨rfl, u', rfl, ru'.stay st⟩)
          rw [SO.ca, SO.nm] at RR
          rw [SO.ca] at t1
          refine ⟨dx2, gs2, t1, ?_, x2 _ _ _ RR.1 (RR.2 B2)⟩
          have := SO.few c'
          rw [t2, SO.nm] at t3
          exact Nat.lt_of_le_of_lt t3 this
        · exact x2.elim
      · exact x2.elim
    · exact x1.elim
  · exact x1.elim
theorem sim_augi (SO : SmOk P Γ M S pf) (fu : Nat) (ob i : E) (op : Bop) (e : E) : SimS P Γ M S pf fu (.augi ob i op e) := fun w W A o0 h0 H0 q o env h σ H De hq R B x => by
  have q0 : q = false := by
    cases q with
    | false => rfl
    | true =>
      have := hq rfl
      simp [puS] at this
  subst q0
  rw [wpS]
  rw [exec] at x
  simp only [wfS, Bool.and_eq_true] at w
  obtain ⟨⟨⟨⟨w1, w2⟩, w3⟩, w4⟩, w5⟩ := w
  refine sP SO ob w1 R (PostS.sub B x (fun z => nomatch z) fun l o1 h1 H1 e1 R1 S1 P1 B1 x1 a ea => ?_)
  refine (sE SO i).1 w2 W false A o1 env h1 σ H1 _ R1 (PostS.sub B1 x1 (fun z => nomatch z) fun k o2 h2 H2 e2 R2 S2 P2 B2 x2 u ru => ?_)
  obtain ⟨rfl, rfl, s2⟩ := P2 w4
  split at x2
  · rename_i kvs eg
    split at x2
    · rename_i kk ek
      split at x2
      · rename_i hc
        split at x2
        · rename_i dv edv
          obtain ⟨m, k0, y1, rfl, rfl, y2, y3, y4⟩ := dic_at R2 eg ea ru.val ek hc
          have hv : ∃ uv, valV m k0 = some uv ∧ Rp P (UU A o2) (rho o2) h2.length H2 dv uv := by
            rcases Rkv.get (k := .inl k0) y3 with ⟨g1, g2⟩ | ⟨d', u', g1, g2, g3⟩
            · rw [g1] at edv; cases edv
            · rw [g1] at edv
              cases edv
              rw [vget_inl] at g2
              exact ⟨u', g2, g3⟩
          obtain ⟨uv, ev, ruv⟩ := hv
          have dg := DGet.k (k := k0) y1
          rw [ev] at dg
          refine ⟨a, uv, rfl, dg, ?_⟩
          refine (sE SO e).1 w3 W true A o2 env h2 σ H2 _ R2 (PostS.sub B2 x2 (fun z => nomatch z) fun d3 o3 h3 H3 e3 R3 S3 P3 B3 x3 v3 rv3 => ?_)
          obtain ⟨rfl, rfl, s3⟩ := P3 w5
          split at x3
          · rename_i z ez
            refine rin2_ok ez (ruv.stay S3.stay).top rv3.top fun u' ru' => ?_
            obtain ⟨m', k0', t1, t0, t00, t2, t3, t4⟩ := dic_at R3 eg ea (ru.val.stay S3.stay) ek hc
            cases t00
            obtain ⟨RR, BB⟩ := put_place R3 (s := .od (kput kvs (.inl k0) z)) eg ea (t4 ru')
            exact ⟨_, DPut.k t1 t2, x3 _ _ _ RR (BB B3 fun z => nomatch z)⟩
          · exact x3.elim
        · exact x2.elim
      · exact x2.elim
    · exact x2.elim
  · exact x2.elim
theorem sim_ex (SO : SmOk P Γ M S pf) (fu : Nat) (e : E) : SimS P Γ M S pf fu (.ex e) := fun w W A o0 h0 H0 q o env h σ H De hq R B x => by
  rw [wpS]
  rw [exec] at x
  simp only [wfS] at w
  have common : ∀ {ob a : E} {bb : Bool}, exK e = some (bb, ob, a) → (wf pf ob = true ∧ wf pf a = true ∧ (isVar ob = true ∨ pu pf a = true)) ∧ (q = true → isVar ob = true ∧ pu pf a = true) := fun ek => by
    rw [ek] at w
    simp only [Bool.and_eq_true, Bool.or_eq_true] at w
    refine ⟨⟨w.1.1, w.1.2, w.2⟩, fun z => ?_⟩
    have := hq z
    simp only [puS, ek, Bool.and_eq_true] at this
    exact this
  have loc : ∀ {ob l h h1}, isVar ob = true → evP S ob env h = .ok l h1 → okP ob l = true → (∃ i, l = .sl i) ∧ h1 = h := by
    intro ob l h h1 hv e1 hk
    cases ob <;> first | (cases hv; done) | skip
    rename_i i
    rw [evP] at e1
    split at e1
    · rename_i s es
      cases ep : plc (.sl i) s with
      | none => rw [ep] at e1; cases e1
      | some l' =>
        rw [ep] at e1
        cases e1
        refine ⟨?_, rfl⟩
        cases l with
        | sl i => exact ⟨i, rfl⟩
        | ob r => cases hk
        | fl r j => cases s <;> simp [plc] at ep <;> split at ep <;> simp at ep
    · cases e1
  split at x
  · rename_i ob a ek
    obtain ⟨⟨w1, w2, w3⟩, hq'⟩ := common ek
    have ee := exK_app ek
    subst ee
    rw [wp, wpl, wpl]
    refine sP SO ob w1 R (PostS.sub B x (fun z => by
      have := hq' z
      cases ob <;> first | rfl | (cases this.1)) fun l o1 h1 H1 e1 R1 S1 P1 B1 x1 ad ea => ?_)
    have ty : ∀ {o2 h2 H2}, Stp A o1 h1 H1 o2 h2 H2 → (pu pf a = true → Pure o1 h1 H1 o2 h2 H2) → okP ob l = true → o2 l = some ad := by
      intro o2 h2 H2 S2 P2 hk
      rcases w3 with w3 | w3
      · obtain ⟨⟨i, rfl⟩, _⟩ := loc w3 e1 hk
        exact (S2.sl i).trans ea
      · obtain ⟨rfl, rfl, _⟩ := P2 w3
        exact ea
    split at x1
    · rename_i xs0 eg0
      obtain ⟨vs0, z1, z2⟩ := at_place R1 eg0 ea
      refine ⟨.inl ⟨rfl, vs0, SqL.of z1⟩, ?_⟩
      refine (sE SO a).1 w2 W false A o1 env h1 σ H1 _ R1 (PostS.sub B1 x1 (fun z => (hq' z).2) fun d o2 h2 H2 e2 R2 S2 P2 B2 x2 v rv => ?_)
      split at x2
      · rename_i xs eg
        split at x2
        · rename_i hc
          simp only [Bool.and_eq_true] at hc
          have ea2 := ty S2 P2 hc.2
          obtain ⟨vs, y1, y2⟩ := at_place R2 eg ea2
          obtain ⟨RR, BB⟩ := put_place R2 (s := .ol (xs ++ [d])) (ob := .lst (vs ++ [v])) eg ea2 ⟨_, rfl, y2.append (Rps.cons rv.val Rps.nil)⟩
          refine ⟨ad, vs, v, rfl, rfl, y1, ?_, x2 _ _ _ RR (BB B2 fun z => (loc (hq' z).1 e1 hc.2).1)⟩
          have := lim_le hc.1
          rw [y2.len]
          omega
        · exact x2.elim
      · exact x2.elim
    · exact x1.elim
  · rename_i ob a ek
    obtain ⟨⟨w1, w2, w3⟩, hq'⟩ := common ek
    have ee := exK_ext ek
    subst ee
    rw [wp, wpl, wpl]
    refine sP SO ob w1 R (PostS.sub B x (fun z => by
      have := hq' z
      cases ob <;> first | rfl | (cases this.1)) fun l o1 h1 H1 e1 R1 S1 P1 B1 x1 ad ea => ?_)
    have ty : ∀ {o2 h2 H2}, Stp A o1 h1 H1 o2 h2 H2 → (pu pf a = true → Pure o1 h1 H1 o2 h2 H2) → okP ob l = true → o2 l = some ad := by
      intro o2 h2 H2 S2 P2 hk
      rcases w3 with w3 | w3
      · obtain ⟨⟨i, rfl⟩, _⟩ := loc w3 e1 hk
        exact (S2.sl i).trans ea
      · obtain ⟨rfl, rfl, _⟩ := P2 w3
        exact ea
    split at x1
    · rename_i xs0 eg0
      obtain ⟨vs0, z1, z2⟩ := at_place R1 eg0 ea
      refine ⟨.inl ⟨rfl, vs0, SqL.of z1⟩, ?_⟩
      refine (sE SO a).1 w2 W true A o1 env h1 σ H1 _ R1 (PostS.sub B1 x1 (fun z => (hq' z).2) fun d o2 h2 H2 e2 R2 S2 P2 B2 x2 v rv => ?_)
      split at x2
      · rename_i xs eg
        split at x2
        · rename_i ys
          split at x2
          · rename_i hc
            simp only [Bool.and_eq_true] at hc
            have ea2 := ty S2 P2 hc.2
            obtain ⟨vs, y1, y2⟩ := at_place R2 eg ea2
            obtain ⟨b, ws, rfl, t1, t2⟩ := rv.top.lst
            obtain ⟨RR, BB⟩ := put_place R2 (s := .ol (xs ++ ys)) (ob := .lst (vs ++ ws)) eg ea2 ⟨_, rfl, y2.append t2⟩
            refine ⟨ad, b, vs, ws, rfl, rfl, y1, t1, ?_, x2 _ _ _ RR (BB B2 fun z => (loc (hq' z).1 e1 hc.2).1)⟩
            have := lim_le hc.1
            rw [y2.len, t2.len]
            omega
          · exact x2.elim
        · exact x2.elim
      · exact x2.elim
    · exact x1.elim
  · rename_i ek
    rw [ek] at w
    refine (sE SO e).1 w W true A o env h σ H _ R (PostS.sub B x (fun z => by
      have := hq z
      simp only [puS, ek] at this
      exact this) fun d o1 h1 H1 e1 R1 S1 P1 B1 x1 v rv => x1 _ _ _ R1 B1)
theorem rt_fin {d : D} {h : MH} {v : V} {q : Bool} (x : PostS P W A o0 h0 H0 q De (.ret d h)) (R : RelH P A o h H) (B : Bd A o0 h0 H0 q o h H) (r : Rp P (UU A o) (rho o) h.length H d v) : De.rt v H :=
  x (noS o) v H (fun _ => rfl) R.noS B.toNoS (r.stay (stay_noS _))
theorem sim_ret (SO : SmOk P Γ M S pf) (fu : Nat) (e : E) : SimS P Γ M S pf fu (.ret e) := fun w W A o0 h0 H0 q o env h σ H De hq R B x => by
  rw [wpS]
  rw [exec] at x
  simp only [wfS] at w
  split at x
  · rename_i i ek
    rw [varK_var ek, wp]
    have own : ∀ {s a}, env[i]? = some s → o (.sl i) = some a → ¬ UU A (noS o) a := by
      rintro s a es ea (u | ⟨l, y⟩)
      · exact R.apart _ a ea u
      · have := R.inj _ _ _ (noS_le y) ea
        subst this
        cases y
    split at x
    · rename_i xs es
      obtain ⟨a, vs, e1, e2, e3, r⟩ := R.sl i _ es
      refine ⟨_, var_get R es e1, x (noS o) _ H (fun _ => rfl) R.toRelH.noS B.toNoS ?_⟩
      unfold Rp
      exact ⟨a, vs, rfl, ⟨e3, own es e2⟩, r.stay (stay_noS _)⟩
    · rename_i xs es
      obtain ⟨a, vs, e1, e2, e3, r⟩ := R.sl i _ es
      refine ⟨_, var_get R es e1, x (noS o) _ H (fun _ => rfl) R.toRelH.noS B.toNoS ?_⟩
      unfold Rp
      exact ⟨a, vs, rfl, ⟨e3, own es e2⟩, r.stay (stay_noS _)⟩
    · rename_i d es
      obtain ⟨_, u, eu, ru⟩ := R.sl i _ es
      exact ⟨u, var_get R es eu, rt_fin x R.toRelH B ru⟩
    · exact x.elim
  · refine (sE SO e).1 w W false A o env h σ H _ R (PostS.sub B x (fun z => by simpa [puS] using hq z) fun d o1 h1 H1 e1 R1 S1 P1 B1 x1 v rv => rt_fin x1 R1.toRelH B1 rv.val)
theorem sim_tset (SO : SmOk P Γ M S pf) (fu : Nat) (t : T) (e : E) : SimS P Γ M S pf fu (.tset t e) := fun w W A o0 h0 H0 q o env h σ H De hq R B x => by
  rw [wpS]
  rw [exec] at x
  simp only [wfS] at w
  refine (sE SO e).1 w W false A o env h σ H _ R (PostS.sub B x (fun z => by simpa [puS] using hq z) fun d o1 h1 H1 e1 R1 S1 P1 B1 x1 v rv => ?_)
  split at x1
  · rename_i e2 ea
    exact sG SO t ea R1 rv.val fun σ' R2 _ _ => x1 _ _ _ R2 B1.drop
  · exact x1.elim
theorem sim_par (SO : SmOk P Γ M S pf) (fu i j : Nat) (a b : E) : SimS P Γ M S pf fu (.par i j a b) := fun w W A o0 h0 H0 q o env h σ H De hq R B x => by
  rw [wpS]
  rw [exec] at x
  simp only [wfS, Bool.and_eq_true] at w
  have hq' : q = true → pu pf a = true ∧ pu pf b = true := fun z => by simpa [puS] using hq z
  refine (sE SO a).1 w.1 W false A o env h σ H _ R (PostS.sub B x (fun z => (hq' z).1) fun d o1 h1 H1 e1 R1 S1 P1 B1 x1 v rv => ?_)
  refine (sE SO b).1 w.2 W false A o1 env h1 σ H1 _ R1 (PostS.sub B1 x1 (fun z => (hq' z).2) fun d2 o2 h2 H2 e2 R2 S2 P2 B2 x2 v2 rv2 => ?_)
  split at x2
  · rename_i hi
    exact ⟨v, v2, rfl, x2 _ _ _ ((R2.put hi.1 (rv.val.stay S2.stay)).put (by simpa using hi.2) (rv2.val.stay (stay_dropS _ _))) B2.drop.drop⟩
  · exact x2.elim
mutual
theorem sS (SO : SmOk P Γ M S pf) (fu : Nat) : ∀ s : MP.S, SimS P Γ M S pf fu s
  | .set i e al => sim_set SO fu i e al
  | .tset t e => sim_tset SO fu t e
  | .par i j a b => sim_par SO fu i j a b
  | .setf c j o e al => sim_setf SO fu c j o e al
  | .seti o i e => sim_seti SO fu o i e
  | .setsl o lo hi e => fun w W A o0 h0 H0 q o env h σ H De hq R B x => by rw [exec] at x; exact x.elim
  | .aug i op e => sim_aug SO fu i op e
  | .augf c j o op e => sim_augf SO fu c j o op e
  | .augi o i op e => sim_augi SO fu o i op e
  | .ex e => sim_ex SO fu e
  | .ret e => sim_ret SO fu e
  | .retN => fun w W A o0 h0 H0 q o env h σ H De hq R B x => by
    rw [wpS]
    rw [exec] at x
    exact rt_fin x R.toRelH B Rp.mkNon
  | .iff c a b => fun w W A o0 h0 H0 q o env h σ H De hq R B x => by
    rw [wpS]
    rw [exec] at x
    simp only [wfS, Bool.and_eq_true] at w
    have hq' : q = true → (pu pf c = true ∧ puB pf a = true) ∧ puB pf b = true := fun z => by simpa [puS] using hq z
    refine (sE SO c).2 w.1.1 W A o env h σ H _ R (PostS.sub B x (fun z => (hq' z).1.1) fun d o1 h1 H1 e1 R1 S1 P1 B1 x1 => ?_)
    split at x1
    · exact ⟨true, rfl, sB SO fu a w.1.2 W A o0 h0 H0 q o1 env h1 σ H1 De (fun z => (hq' z).1.2) R1 B1 x1⟩
    · exact ⟨false, rfl, sB SO fu b w.2 W A o0 h0 H0 q o1 env h1 σ H1 De (fun z => (hq' z).2) R1 B1 x1⟩
    · exact x1.elim
  | .whl c b => fun w W A o0 h0 H0 q o env h σ H De hq R B x => by
    rw [wpS]
    rw [exec] at x
    simp only [wfS, Bool.and_eq_true] at w
    have hq' : q = true → pu pf c = true ∧ puB pf b = true := fun z => by simpa [puS] using hq z
    refine ⟨fun m σ H => ∃ o env h, Rel P A o env h σ H ∧ Bd A o0 h0 H0 q o h H ∧ PostS P W A o0 h0 H0 q De (loopW (fun e h1 => ev S c true e h1) (fun e h1 => execB S fu b e h1) m env h), ⟨fu, o, env, h, R, B, x⟩, ?_⟩
    rintro m σ H ⟨o, env, h, R, B, x⟩
    cases m with
    | zero => exact x.elim
    | succ m =>
      unfold loopW at x
      refine (sE SO c).2 w.1 W A o env h σ H _ R (PostS.sub B x (fun z => (hq' z).1) fun d o1 h1 H1 e1 R1 S1 P1 B1 x1 => ?_)
      split at x1
      · refine ⟨true, rfl, _, fun σ' H' y => ⟨m, Nat.lt_succ_self _, y⟩, ?_⟩
        refine sB SO fu b w.2 W A o0 h0 H0 q o1 env h1 σ H1 _ (fun z => (hq' z).2) R1 B1 ?_
        revert x1
        cases execB S fu b env h1 with
        | nx e2 h2 => exact fun x1 o2 σ2 H2 R2 B2 => ⟨o2, e2, h2, R2, B2, x1⟩
        | brk e2 h2 => exact fun x1 => x1
        | cnt e2 h2 => exact fun x1 o2 σ2 H2 R2 B2 => ⟨o2, e2, h2, R2, B2, x1⟩
        | ret d h2 => exact fun x1 => x1
        | exc cc p e2 h2 => exact fun x1 => x1
        | bad => exact fun x1 => x1
      · exact ⟨false, rfl, x1 _ _ _ R1 B1⟩
      · exact x1.elim
  | .for t it b => fun w W A o0 h0 H0 q o env h σ H De hq R B x => by
    rw [wpS]
    rw [exec] at x
    simp only [wfS, Bool.and_eq_true] at w
    have hq' : q = true → puI pf it = true ∧ puB pf b = true := fun z => by simpa [puS] using hq z
    refine sI SO it w.1 W false A o env h σ H _ R (PostS.sub B x (fun z => (hq' z).1) fun ds o1 h1 H1 e1 R1 S1 P1 B1 x1 J its => ?_)
    obtain ⟨Gd, Y, wk, its⟩ := its
    let f : D → MEnv → MH → SR := fun d e h2 => match asg t d e with
      | some e1 => execB S fu b e1 h2
      | none => .bad
    have x1 : PostS P W A o0 h0 H0 q De (loopF f ds env h1) := x1
    let Pv : Nat → L2.St → Hp → Prop := fun i σ Hc => ∃ o2 env2 h2, Rel P A o2 env2 h2 σ Hc ∧ Bd A o1 h1 H1 q o2 h2 Hc ∧ PostS P W A o0 h0 H0 q De (loopF f (ds.drop i) env2 h2)
    refine for_it wk Pv ⟨o1, env, h1, R1, Bd.refl, x1⟩ (fun i σ2 Hc _ ⟨o2, env2, h2, R2, B2, _⟩ => (its _ _ _ Hc B2.stay (fun z => nomatch z) (fr_of R2.toRelH)).1) (fun i xv σ2 Hc H' hi ⟨o2, env2, h2, R2, B2, x2⟩ y => ?_) (fun σ2 Hc ⟨o2, env2, h2, R2, B2, x2⟩ => ?_)
    · obtain ⟨sm, d, ed, rd⟩ := (its _ _ _ Hc B2.stay (fun z => nomatch z) (fr_of R2.toRelH)).2 i xv H' hi y
      have edr : ds.drop i = d :: ds.drop (i + 1) := by
        obtain ⟨h1, h2⟩ := List.getElem?_eq_some_iff.mp ed
        rw [List.drop_eq_getElem_cons h1, h2]
      rw [edr] at x2
      unfold loopF at x2
      cases ea : asg t d env2 with
      | none =>
        have ef : f d env2 h2 = .bad := by simp only [f, ea]
        rw [ef] at x2
        exact x2.elim
      | some e1 =>
        have ef : f d env2 h2 = execB S fu b e1 h2 := by simp only [f, ea]
        rw [ef] at x2
        refine sG SO t ea (R2.same sm) rd fun σ3 R3 _ _ => ?_
        refine sB SO fu b w.2 W A o1 h1 H1 q _ e1 h2 σ3 H' _ (fun z => (hq' z).2) R3 ((B2.same R2.toRelH sm).drop) ?_
        revert x2
        cases execB S fu b e1 h2 with
        | nx e2 h3 => exact fun x2 o3 σ4 H3 R4 B4 => ⟨o3, e2, h3, R4, B4, x2⟩
        | brk e2 h3 => exact fun x2 o3 σ4 H3 R4 B4 => x2 o3 σ4 H3 R4 (B1.trans B4)
        | cnt e2 h3 => exact fun x2 o3 σ4 H3 R4 B4 => ⟨o3, e2, h3, R4, B4, x2⟩
        | ret d h3 => exact fun x2 o3 v H3 ns R4 B4 => x2 o3 v H3 ns R4 (B1.trans B4)
        | exc cc p e2 h3 => exact fun x2 o3 σ4 H3 cls dd R4 B4 => x2 o3 σ4 H3 cls dd R4 (B1.weak.trans B4)
        | bad => exact fun x2 => x2
    · rw [List.drop_length] at x2
      exact x2 _ _ _ R2 (B1.trans B2)
  | .brk => fun w W A o0 h0 H0 q o env h σ H De hq R B x => by
    rw [wpS]
    rw [exec] at x
    exact x _ _ _ R B
  | .cnt => fun w W A o0 h0 H0 q o env h σ H De hq R B x => by
    rw [wpS]
    rw [exec] at x
    exact x _ _ _ R B
  | .pass => fun w W A o0 h0 H0 q o env h σ H De hq R B x => by
    rw [wpS]
    rw [exec] at x
    exact x _ _ _ R B
  | .deli o i => fun w W A o0 h0 H0 q o env h σ H De hq R B x => by rw [exec] at x; exact x.elim
theorem sB (SO : SmOk P Γ M S pf) (fu : Nat) : ∀ s : Sb, SimB P Γ M S pf fu s
  | .nil => fun w W A o0 h0 H0 q o env h σ H De hq R B x => by
    rw [wpB]
    rw [execB] at x
    exact x _ _ _ R B
  | .cons s .nil => fun w W A o0 h0 H0 q o env h σ H De hq R B x => by
    rw [wpB]
    rw [execB] at x
    simp only [wfB, Bool.and_eq_true] at w
    have hq' : q = true → puS pf s = true := fun z => by
      have := hq z
      simp only [puB, Bool.and_eq_true] at this
      exact this.1
    refine sS SO fu s w.1 W A o0 h0 H0 q o env h σ H De hq' R B ?_
    revert x
    cases exec S fu s env h with
    | nx e1 h1 => exact fun x => x
    | brk e1 h1 => exact fun x => x
    | cnt e1 h1 => exact fun x => x
    | ret d h1 => exact fun x => x
    | exc c p e1 h1 => exact fun x => x
    | bad => exact fun x => x
  | .cons s (.cons s2 r) => fun w W A o0 h0 H0 q o env h σ H De hq R B x => by
    rw [wpB]
    any_goals exact fun z => Sb.noConfusion z
    rw [execB] at x
    simp only [wfB, Bool.and_eq_true] at w
    have hq' : q = true → puS pf s = true ∧ puS pf s2 = true ∧ puB pf r = true := fun z => by simpa [puB] using hq z
    refine sS SO fu s w.1 W A o0 h0 H0 q o env h σ H _ (fun z => (hq' z).1) R B ?_
    revert x
    cases exec S fu s env h with
    | nx e1 h1 => exact fun x o2 σ2 H2 R2 B2 => sB SO fu (.cons s2 r) (by simp [wfB, w.2]) W A o0 h0 H0 q o2 e1 h1 σ2 H2 De (fun z => by simp [puB, hq' z]) R2 B2 x
    | brk e1 h1 => exact fun x => x
    | cnt e1 h1 => exact fun x => x
    | ret d h1 => exact fun x => x
    | exc c p e1 h1 => exact fun x => x
    | bad => exact fun x => x
end
end
end MP

set_option Elab.async false
set_option linter.all false
set_option maxRecDepth 100000
set_option maxHeartbeats 4000000
namespace MP
open PySem PySem.Spec PyProof.Rows L2
/-! ### functions -/
structure FnC where
  N : List Str
  np : Nat
  body : Sb
structure Sx where
  dv : Nat → Nat → List D
  con : Nat → D
  cls : Nat → Option Nat
  nf : Nat → Nat
  init : Nat → Nat
  code : Nat → Option FnC
def Sx.sm (X : Sx) (call : Nat → List D → MH → Out D) : Sm := ⟨call, X.dv, X.con, X.cls, X.nf, X.init⟩
def startE (n : Nat) (ds : List D) : MEnv := ds.map .val ++ List.replicate (n - ds.length) .un
def endR : SR → Out D
  | .nx _ h => .ok .non h
  | .ret d h => .ok d h
  | .exc c p _ h => .exc c p [] h
  | _ => .bad
noncomputable def callM (X : Sx) (fu : Nat) : Nat → Nat → List D → MH → Out D
  | 0, _, _, _ => .bad
  | k + 1, g, ds, h => match X.code g with
    | some c => if ds.length = c.np then endR (execB (X.sm (callM X fu k)) fu c.body (startE c.N.length ds) h) else .bad
    | none => .bad
section
variable {P : Pm} {Γ : Tab} {X : Sx} {pf : Nat → Bool} {fu : Nat}
def spM (P : Pm) (Γ : Tab) (X : Sx) (pf : Nat → Bool) (fu k g : Nat) : Sp := fun vs H Q E => vs.length = (Γ.fn g).ps.length ∧ ∃ A o h ds, noSl o ∧ RelH P A o h H ∧ Rps P (UU A o) (rho o) h.length H ds vs ∧ PostC P A o h H (pf g) (callM X fu k g ds h) Q E
/-- what the model's data are, whatever the level -/
structure Mb where
  con : Nat → V
  fnA : Nat → Addr
  fd : Nat → FuncData
  dv : Nat → Nat → List V
def Mb.mo (B : Mb) (P : Pm) (Γ : Tab) (X : Sx) (pf : Nat → Bool) (fu k : Nat) : Mo := ⟨P.K, B.con, P.ca, B.fnA, B.fd, spM P Γ X pf fu k, B.dv⟩
/-- the text's facts -/
structure TxOk (K : PySem.W.Frag) (mg : Str → Option Value) (P : Pm) (Γ : Tab) (X : Sx) (pf : Nat → Bool) (B : Mb) : Prop where
  hK : P.K = K
  nm : P.nm = fun c => (Γ.cl c).fields
  con : ∀ k U ρ n H, Rp P U ρ n H (X.con k) (B.con k)
  dv : ∀ g m U ρ n H, Rps P U ρ n H (X.dv g m) (B.dv g m)
  cls : ∀ g, X.cls g = (Γ.fn g).cls
  nf : ∀ c, X.nf c = (Γ.cl c).fields.length
  init : ∀ c, X.init c = (Γ.cl c).init
  fld : ∀ c j, j < (Γ.cl c).fields.length → Cls K (P.ca c) ∧ NoAttr K (P.ca c) ((Γ.cl c).fields.getD j "")
  few : ∀ c, (Γ.cl c).fields.length < 1000
  nd : ∀ c, (Γ.cl c).fields.Nodup
  mnm : ∀ g c, (Γ.fn g).cls = some c → (Γ.fn g).name ∉ (Γ.cl c).fields
  kp : ∀ g, g < Γ.fns.length → PySem.W.keepIn K (.ref (B.fnA g)) = true
  gl : ∀ g, g < Γ.fns.length → (Γ.fn g).cls = none → mg (Γ.fn g).name = some (.ref (B.fnA g))
  me : ∀ g, g < Γ.fns.length → ∀ c, (Γ.fn g).cls = some c → Cls K (P.ca c) ∧ Meth K (P.ca c) (Γ.fn g).name (B.fnA g)
  bd : ∀ g, g < Γ.fns.length → ∀ n, n ≤ (Γ.fn g).ps.length → ∃ ds, Vals (B.dv g n) ds ∧ L2.Binds K (B.fd g) (Γ.fn g).ps ds
  cl : ∀ c, c < Γ.clss.length → Mk K (P.ca c) (B.fnA (Γ.cl c).init) ∧ mg (Γ.cl c).name = some (.ref (P.ca c)) ∧ (Γ.cl c).init < Γ.fns.length
  co : ∀ j, j < Γ.cons.length → ∃ u, mg (Γ.co j) = some u ∧ RelV (B.con j) u
  fr : ∀ x ∈ Γ.free, mg x = none
  df : ∀ g c, g < Γ.fns.length → X.code g = some c → ∃ x qual params body scope dvs kws, FunD K x qual params body scope dvs kws (B.fnA g) (B.fd g) ∧ FnScope c.N (Γ.fn g).ps scope ∧ chkB Γ c.N c.body scope body = true
  wf : ∀ g c, X.code g = some c → c.np = (Γ.fn g).ps.length ∧ wfB pf c.body = true ∧ (pf g = true → puB pf c.body = true) ∧ c.np ≤ c.N.length
variable {K : PySem.W.Frag} {mg : Str → Option Value} {B : Mb}
theorem TxOk.sm (T : TxOk K mg P Γ X pf B) (fu k : Nat) : SmOk P Γ (B.mo P Γ X pf fu k) (X.sm (callM X fu k)) pf where
  K := rfl
  ca := rfl
  nm := T.nm
  con := T.con
  dv := T.dv
  cls := T.cls
  nf := T.nf
  init := T.init
  fld := fun c j hj => by
    have := T.fld c j hj
    rw [← T.hK] at this
    exact this
  few := T.few
  nd := T.nd
  mnm := T.mnm
  call := fun g A o h H ds vs Q E ns R r p => by
    refine ⟨?_, A, o, h, ds, ns, R, r, p⟩
    rw [r.len]
    have p : PostC P A o h H (pf g) (callM X fu k g ds h) Q E := p
    cases k with
    | zero => exact p.elim
    | succ k =>
      unfold callM at p
      split at p
      · rename_i c ec
        split at p
        · rename_i hl
          rw [hl]
          exact (T.wf g c ec).1
        · exact p.elim
      · exact p.elim
theorem start_rel {A : Addr → Prop} {o : Loc → Option Addr} {h : MH} {H : Hp} {N : List Str} {ds : List D} {vs : List V} (R : RelH P A o h H) (ns : noSl o) (r : Rps P (UU A o) (rho o) h.length H ds vs) (hl : ds.length ≤ N.length) : Rel P A o (startE N.length ds) h (L2.start N vs) H :=
  { R with
    len := by
      unfold startE L2.start
      simp [r.len]
    sl := fun i s e => by
      rw [ns i]
      unfold startE at e
      by_cases hi : i < ds.length
      · rw [List.getElem?_append_left (by simpa using hi), List.getElem?_map, List.getElem?_eq_getElem hi] at e
        cases e
        obtain ⟨v, e1, r1⟩ := r.at (List.getElem?_eq_getElem hi)
        refine ⟨rfl, v, ?_, r1⟩
        have hv : i < vs.length := by rw [r.len]; exact hi
        unfold L2.start
        rw [List.getD_eq_getElem?_getD, List.getElem?_append_left (by simpa using hv), List.getElem?_map, e1]
        rfl
      · rw [List.getElem?_append_right (by simp; omega)] at e
        have hs : s = .un := (List.mem_replicate.mp (List.mem_of_getElem? e)).2
        subst hs
        rfl
    slf := fun i _ => ns i }
theorem fn_all (T : TxOk K mg P Γ X pf B) {Pr : Program} {w : World} {base : Heap} (fu : Nat) : ∀ k g, g < Γ.fns.length → FnOk Pr w K mg base (L2.CX Pr w) (2 * k) (B.fnA g) (B.fd g) (Γ.fn g).ps (spM P Γ X pf fu k g)
  | 0, g, _ => ⟨fun vs H Q E h => h.1, fun A outer s H args us vs Q E _ _ _ _ h => by
    obtain ⟨_, _, _, _, _, _, _, _, p⟩ := h
    exact p.elim⟩
  | k + 1, g, hg => by
    cases ec : X.code g with
    | none =>
      refine ⟨fun vs H Q E h => h.1, fun A outer s H args us vs Q E _ _ _ _ h => ?_⟩
      obtain ⟨_, A', o, h, ds, _, _, _, p⟩ := h
      have p : PostC P A' o h H (pf g) (callM X fu (k + 1) g ds h) Q E := p
      unfold callM at p
      rw [ec] at p
      exact p.elim
    | some c =>
      obtain ⟨x, qual, params, body, scope, dvs, kws, F, S, hc⟩ := T.df g c hg ec
      obtain ⟨w1, w2, w3, w4⟩ := T.wf g c ec
      have e2 : 2 * (k + 1) = (2 * k + 1) + 1 := by omega
      rw [e2]
      refine F.ok S (fun vs H Q E h => h.1) fun cdv A outer s H vs Q E hr h => ?_
      refine ⟨wpB Γ (B.mo P Γ X pf fu k) c.body (fun cls dd _ H => E cls dd H), ?_, ?_⟩
      · refine thB (k := 2 * k) c.body (sc := scope) ?_ ?_ hc
        · exact ⟨T.hK, hr, fun g' hg' => ⟨fn_all T fu k g' hg', T.kp g' hg', T.gl g' hg', T.me g' hg', T.bd g' hg'⟩, T.cl, T.co, T.fr⟩
        · exact ⟨⟨rfl, S.nd, rfl, rfl, fun x hx => ⟨locB_of hx, .inl rfl⟩, takes_of rfl rfl rfl rfl⟩, S.kind, passes_of rfl⟩
      · obtain ⟨hl, A', o, h0, ds, ns, R, r, p⟩ := h
        have p : PostC P A' o h0 H (pf g) (callM X fu (k + 1) g ds h0) Q E := p
        unfold callM at p
        rw [ec] at p
        dsimp only at p
        split at p
        · rename_i hd
          refine sB (T.sm fu k) fu c.body w2 _ A' o h0 H (pf g) o _ h0 _ H _ w3 (start_rel R ns r (by rw [hd]; exact w4)) Bd.refl ?_
          revert p
          cases execB (X.sm (callM X fu k)) fu c.body (startE c.N.length ds) h0 with
          | nx e1 h1 =>
            intro p o1 σ1 H1 R1 B1
            obtain ⟨f1, f2⟩ := Bd.fin ns (fun _ => rfl) B1.toNoS
            exact p (noS o1) .non H1 (fun _ => rfl) R1.toRelH.noS f1 f2 Rp.mkNon
          | ret d h1 =>
            intro p o1 v H1 ns1 R1 B1 rv
            obtain ⟨f1, f2⟩ := Bd.fin ns ns1 B1
            exact p o1 v H1 ns1 R1 f1 f2 rv
          | exc cc pp e1 h1 =>
            intro p o1 σ1 H1 cls dd R1 B1 ex
            obtain ⟨f1, f2⟩ := Bd.fin ns (fun _ => rfl) B1.toNoS
            refine p (noS o1) H1 cls dd (fun _ => rfl) R1.toRelH.noS f1 ?_
            unfold ExR at *
            refine ⟨ex.1, ?_⟩
            cases pp with
            | none => exact ex.2
            | some d =>
              obtain ⟨q1, v, z1, z2, rr⟩ := ex.2
              exact ⟨q1, v, z1, z2, rr.stay (stay_noS _)⟩
          | brk e1 h1 => exact fun p => p.elim
          | cnt e1 h1 => exact fun p => p.elim
          | bad => exact fun p => p.elim
        · exact p.elim
end
end MP

set_option Elab.async false
set_option linter.all false
set_option maxRecDepth 100000
set_option maxHeartbeats 4000000
namespace MP
open PySem PySem.Spec PyProof.Rows L2
/-! ### from the head's facts to the text's facts -/
def atG (Γ : Tab) (g : Nat) : Str × Option Str := match (Γ.fn g).cls with
  | none => ((Γ.fn g).name, none)
  | some c => ((Γ.cl c).name, some (Γ.fn g).name)
def mkFa (Γ : Tab) (ci : List Int) : List He.Fa :=
  (Γ.fns.map fun f => match f.cls with
    | none => He.Fa.glo f.name
    | some c => He.Fa.meth (Γ.cl c).name f.name) ++
  Γ.clss.flatMap (fun c => [He.Fa.glo c.name, .cls c.name, .mkr c.name] ++ c.fields.map (He.Fa.noat c.name)) ++
  (Γ.cons.zip ci).map (fun p => He.Fa.int p.1 p.2) ++ Γ.free.map He.Fa.free
def nodupB : List Str → Bool
  | [] => true
  | x :: r => !(r.contains x) && nodupB r
/-- what of the tables can be looked at -/
def okTab (Γ : Tab) (ci : List Int) : Bool :=
  (Γ.clss.all fun c => decide (c.fields.length < 1000) && nodupB c.fields && decide (c.init < Γ.fns.length) && decide (atG Γ c.init = (c.name, some ("__init__" : Str)))) &&
  (Γ.fns.all fun f => match f.cls with
    | none => true
    | some c => decide (c < Γ.clss.length) && !((Γ.cl c).fields.contains f.name)) && decide (ci.length = Γ.cons.length)
def okCode (Γ : Tab) (pf : Nat → Bool) (code : Nat → Option FnC) (fn : List He.DefD) : Bool :=
  (List.range Γ.fns.length).all fun g => (match fn[g]? with
    | some d => decide (d.at_ = atG Γ g)
    | none => false) && match code g with
    | none => true
    | some c => decide (c.np = (Γ.fn g).ps.length) && wfB pf c.body && (!(pf g) || puB pf c.body) && decide (c.np ≤ c.N.length)
theorem nodupB_ok : ∀ {l : List Str}, nodupB l = true → l.Nodup
  | [], _ => List.nodup_nil
  | x :: r, h => by
    simp only [nodupB, Bool.and_eq_true, Bool.not_eq_true'] at h
    refine List.nodup_cons.mpr ⟨fun z => ?_, nodupB_ok h.2⟩
    have : r.contains x = true := by simp [z]
    rw [this] at h
    cases h.1
def mkSx (Γ : Tab) (ci : List Int) (dv : Nat → Nat → List D) (code : Nat → Option FnC) : Sx := ⟨dv, fun k => .int (ci.getD k 0), fun g => (Γ.fn g).cls, fun c => (Γ.cl c).fields.length, fun c => (Γ.cl c).init, fun g => if g < Γ.fns.length then code g else none⟩
section
variable {Γ : Tab} {ci : List Int} {pf : Nat → Bool} {code : Nat → Option FnC} {fn : List He.DefD} {K : PySem.W.Frag} {h : Heap} {mg : Str → Option Value} {dv : Nat → Nat → List D} {dvV : Nat → Nat → List V}
theorem cl_in {c : Nat} (hc : c < Γ.clss.length) : Γ.cl c ∈ Γ.clss := by
  unfold Tab.cl
  rw [List.getD_eq_getElem?_getD, List.getElem?_eq_getElem hc]
  exact List.getElem_mem hc
theorem cl_out {c : Nat} (hc : ¬ c < Γ.clss.length) : Γ.cl c = ⟨"", [], 0⟩ := by
  unfold Tab.cl
  rw [List.getD_eq_getElem?_getD, List.getElem?_eq_none (by omega)]
  rfl
theorem fn_in {g : Nat} (hg : g < Γ.fns.length) : Γ.fn g ∈ Γ.fns := by
  unfold Tab.fn
  rw [List.getD_eq_getElem?_getD, List.getElem?_eq_getElem hg]
  exact List.getElem_mem hg
theorem tx_of (X : K.In h) (G : h.Ns mainGlobals mg) (c : He.SaysD (mkFa Γ ci) fn K) (t1 : okTab Γ ci = true) (t2 : okCode Γ pf code fn = true)
    (hdv : ∀ g m U ρ n H P, Rps P U ρ n H (dv g m) (dvV g m))
    (hdef : ∀ g d cc, fn[g]? = some d → code g = some cc → FnScope cc.N (Γ.fn g).ps d.scope ∧ chkB Γ cc.N cc.body d.scope d.body = true)
    (hbd : ∀ g d fd, fn[g]? = some d → FunD K d.name d.qual d.params d.body d.scope (d.dvs K) (d.kws K) (He.fAd K d.at_) fd → ∀ n, n ≤ (Γ.fn g).ps.length → ∃ ds, Vals (dvV g n) ds ∧ L2.Binds K fd (Γ.fn g).ps ds) :
    ∃ fdf : Nat → FuncData, TxOk K mg ⟨K, fun c => He.ga K (Γ.cl c).name, fun c => (Γ.cl c).fields⟩ Γ (mkSx Γ ci dv code) pf ⟨fun k => .int (ci.getD k 0), fun g => He.fAd K (atG Γ g), fdf, dvV⟩ ∧ ∀ g, g < Γ.fns.length → ∃ d, fn[g]? = some d ∧ FunD K d.name d.qual d.params d.body d.scope (d.dvs K) (d.kws K) (He.fAd K d.at_) (fdf g) := by
  have fact : ∀ f, f ∈ mkFa Γ ci → f.ok K = true := fun f hf => by
    obtain ⟨i, hi⟩ := List.mem_iff_getElem?.mp hf
    exact c.fact i hi
  simp only [okTab, Bool.and_eq_true, List.all_eq_true, decide_eq_true_eq] at t1
  obtain ⟨⟨a1, a2⟩, a3⟩ := t1
  simp only [okCode, List.all_eq_true, Bool.and_eq_true, List.mem_range] at t2
  have dfn : ∀ g, g < Γ.fns.length → ∃ d fd, fn[g]? = some d ∧ d.at_ = atG Γ g ∧ FunD K d.name d.qual d.params d.body d.scope (d.dvs K) (d.kws K) (He.fAd K (atG Γ g)) fd := fun g hg => by
    have q := (t2 g hg).1
    cases ed : fn[g]? with
    | none => rw [ed] at q; cases q
    | some d =>
      rw [ed] at q
      have q : d.at_ = atG Γ g := of_decide_eq_true q
      obtain ⟨fd, F⟩ := c.def_ g ed
      rw [q] at F
      exact ⟨d, fd, rfl, q, F⟩
  have mcls : ∀ {cc}, cc < Γ.clss.length → ∀ f, f ∈ ([He.Fa.glo (Γ.cl cc).name, .cls (Γ.cl cc).name, .mkr (Γ.cl cc).name] ++ (Γ.cl cc).fields.map (He.Fa.noat (Γ.cl cc).name)) → f.ok K = true := fun {cc} hc f hf =>
    fact f (List.mem_append_left _ (List.mem_append_left _ (List.mem_append_right _ (List.mem_flatMap.mpr ⟨_, cl_in hc, hf⟩))))
  have fdx : ∀ g, ∃ fd : FuncData, ∀ hg : g < Γ.fns.length, ∃ d, fn[g]? = some d ∧ d.at_ = atG Γ g ∧ FunD K d.name d.qual d.params d.body d.scope (d.dvs K) (d.kws K) (He.fAd K (atG Γ g)) fd := fun g => by
    by_cases hg : g < Γ.fns.length
    · obtain ⟨d, fd, e1, e2, F⟩ := dfn g hg
      exact ⟨fd, fun _ => ⟨d, e1, e2, F⟩⟩
    · by_cases h0 : 0 < Γ.fns.length
      · obtain ⟨d, fd, _⟩ := dfn 0 h0
        exact ⟨fd, fun z => (hg z).elim⟩
      · exact ⟨PySem.W.fnOf "" "" { posonlyargs := [], args := [], vararg := none, kwonlyargs := [], kw_defaults := [], kwarg := none, defaults := [] } [] { kind := .function, names := [], isGenerator := false, isCoroutine := false } .none .none .none .none none .none .none, fun z => (hg z).elim⟩
  obtain ⟨fdf, hfd⟩ := Classical.axiomOfChoice fdx
  refine ⟨fdf, ?_, fun g hg => by
    obtain ⟨d, e1, e2, F⟩ := hfd g hg
    rw [← e2] at F
    exact ⟨d, e1, F⟩⟩
  refine ⟨rfl, rfl, fun k U ρ n H => Rp.mkInt _, fun g m U ρ n H => hdv g m U ρ n H _, fun g => rfl, fun c => rfl, fun c => rfl, fun cc j hj => ?_, fun cc => ?_, fun cc => ?_, fun g cc e => ?_, fun g hg => ?_, fun g hg e => ?_, fun g hg cc e => ?_, fun g hg n hn => ?_, fun cc hc => ?_, fun j hj => ?_, fun x hx => ?_, fun g cc hg e => ?_, fun g cc e => ?_⟩
  · by_cases hc : cc < Γ.clss.length
    · refine ⟨He.cls_ok (mcls hc (.cls _) (by simp)), He.noat_ok (mcls hc (.noat _ _) ?_)⟩
      refine List.mem_append_right _ (List.mem_map.mpr ⟨_, ?_, rfl⟩)
      rw [List.getD_eq_getElem?_getD, List.getElem?_eq_getElem hj]
      exact List.getElem_mem hj
    · rw [cl_out hc] at hj
      simp at hj
  · by_cases hc : cc < Γ.clss.length
    · exact (a1 _ (cl_in hc)).1.1.1
    · rw [cl_out hc]
      decide
  · by_cases hc : cc < Γ.clss.length
    · exact nodupB_ok (a1 _ (cl_in hc)).1.1.2
    · rw [cl_out hc]
      exact List.nodup_nil
  · by_cases hg : g < Γ.fns.length
    · have := a2 _ (fn_in hg)
      rw [e] at this
      simp only [Bool.and_eq_true, Bool.not_eq_true'] at this
      intro z
      have q : ((Γ.cl cc).fields.contains (Γ.fn g).name) = true := by simpa using z
      rw [q] at this
      cases this.2
    · have : (Γ.fn g).cls = none := by
        unfold Tab.fn
        rw [List.getD_eq_getElem?_getD, List.getElem?_eq_none (by omega)]
        rfl
      rw [this] at e
      cases e
  · obtain ⟨d, _, _, F⟩ := hfd g hg
    exact F.kp
  · have e1 : He.Fa.glo (Γ.fn g).name ∈ mkFa Γ ci := by
      refine List.mem_append_left _ (List.mem_append_left _ (List.mem_append_left _ (List.mem_map.mpr ⟨_, fn_in hg, ?_⟩)))
      rw [e]
    have e2 : atG Γ g = ((Γ.fn g).name, none) := by unfold atG; rw [e]
    show mg (Γ.fn g).name = some (.ref (He.fAd K (atG Γ g)))
    rw [e2]
    exact He.glo_ok X G (fact _ e1)
  · have e1 : He.Fa.meth (Γ.cl cc).name (Γ.fn g).name ∈ mkFa Γ ci := by
      refine List.mem_append_left _ (List.mem_append_left _ (List.mem_append_left _ (List.mem_map.mpr ⟨_, fn_in hg, ?_⟩)))
      rw [e]
    have e2 : atG Γ g = ((Γ.cl cc).name, some (Γ.fn g).name) := by unfold atG; rw [e]
    have hc : cc < Γ.clss.length := by
      have := a2 _ (fn_in hg)
      rw [e] at this
      simp only [Bool.and_eq_true, decide_eq_true_eq] at this
      exact this.1
    show Cls K (He.ga K (Γ.cl cc).name) ∧ Meth K (He.ga K (Γ.cl cc).name) (Γ.fn g).name (He.fAd K (atG Γ g))
    rw [e2]
    exact ⟨He.cls_ok (mcls hc (.cls _) (by simp)), He.meth_ok (fact _ e1)⟩
  · obtain ⟨d, e1, e2, F⟩ := hfd g hg
    rw [← e2] at F
    exact hbd g d _ e1 F n hn
  · have m := He.mkr_ok (mcls hc (.mkr (Γ.cl cc).name) (by simp))
    have hi := (a1 _ (cl_in hc)).1.2
    have ea := (a1 _ (cl_in hc)).2
    refine ⟨?_, He.glo_ok X G (mcls hc (.glo _) (by simp)), hi⟩
    show Mk K (He.ga K (Γ.cl cc).name) (He.fAd K (atG Γ (Γ.cl cc).init))
    rw [ea]
    exact m
  · have hj' : j < ci.length := by rw [a3]; exact hj
    have e1 : He.Fa.int (Γ.co j) (ci.getD j 0) ∈ mkFa Γ ci := by
      refine List.mem_append_left _ (List.mem_append_right _ (List.mem_map.mpr ⟨(Γ.co j, ci.getD j 0), ?_, rfl⟩))
      have g1 : Γ.cons[j]? = some (Γ.co j) := by
        unfold Tab.co
        rw [List.getD_eq_getElem?_getD, List.getElem?_eq_getElem hj]
        rfl
      have g2 : ci[j]? = some (ci.getD j 0) := by
        rw [List.getD_eq_getElem?_getD, List.getElem?_eq_getElem hj']
        rfl
      exact List.mem_iff_getElem?.mpr ⟨j, List.getElem?_zip_eq_some.mpr ⟨g1, g2⟩⟩
    obtain ⟨tk, q⟩ := He.int_ok X G (fact _ e1)
    exact ⟨_, q, tk, rfl⟩
  · exact He.free_ok X G (fact _ (List.mem_append_right _ (List.mem_map.mpr ⟨x, hx, rfl⟩)))
  · obtain ⟨d, e1, e2, F⟩ := hfd g hg
    have e' : code g = some cc := by
      have e : (if g < Γ.fns.length then code g else none) = some cc := e
      rw [if_pos hg] at e
      exact e
    obtain ⟨q1, q2⟩ := hdef g d cc e1 e'
    exact ⟨_, _, _, _, _, _, _, F, q1, q2⟩
  · have e : (if g < Γ.fns.length then code g else none) = some cc := e
    split at e
    · rename_i hg
      have q := (t2 g hg).2
      rw [e] at q
      simp only [Bool.and_eq_true, decide_eq_true_eq, Bool.or_eq_true, Bool.not_eq_true'] at q
      exact ⟨q.1.1.1, q.1.1.2, fun z => q.1.2.elim (fun y => by rw [z] at y; cases y) id, q.2⟩
    · cases e
/-- the law's promise at its one argument -/
theorem end_sp {P : Pm} {X : Sx} {fu k L : Nat} {x : Str} (hps : (Γ.fn L).ps = [x]) {H : Hp} {a : Addr} {ns : List Int} (hO : Only H) (hS : SqL P.K H a (ns.map V.int)) (hk : ∃ h', callM X fu k L [.rol (ns.map .int)] [] = .ok (.bl true) h') :
    spM P Γ X pf fu k L [.ref a] H (fun v _ => v = .bl true) fun _ _ _ => False := by
  refine ⟨by rw [hps]; rfl, fun _ => False, fun _ => none, [], [.rol (ns.map .int)], fun _ => rfl, ⟨fun l l' a e => (nomatch e), fun l a e => (nomatch e), fun a u => u.elim, fun l a e => (nomatch e), fun r m e => by simp at e, fun r _ => ⟨rfl, fun _ => rfl⟩⟩, ?_, ?_⟩
  · refine Rps.cons ?_ Rps.nil
    unfold Rp
    refine ⟨a, ns.map V.int, rfl, ?_, Rps.ints ns⟩
    rcases hS with (hS | ⟨ob, hS⟩) | hS
    · rcases hO a with q | ⟨o, xs, q⟩ <;> rw [q] at hS <;> cases hS
    · exact .inl ⟨ob, hS, fun u => u.elim id fun ⟨l, e⟩ => nomatch e⟩
    · exact .inr hS
  · obtain ⟨h', e⟩ := hk
    rw [e]
    intro o' v H' _ _ _ _ r
    unfold Rp at r
    exact r
/-- what may leave, in any world -/
def CXa (P : Program) : CXT := fun outer H s E e s' => ∃ w, L2.CX P w outer H s E e s'
theorem cxa_no {P : Program} {H : Hp} {s s' : Shared} {e : Value} (c : CXa P [] H s (fun _ _ _ => False) e s') : False := by
  obtain ⟨w, a, B, H', cls, d, _, _, _, _, _, _, _, z⟩ := c
  exact z
theorem wideX {P : Program} {w : World} {base : Heap} {k : Nat} {f : Addr} {fd : FuncData} {ps : List Str} {sp : Sp} (F : FnOk P w K mg base (L2.CX P w) k f fd ps sp) : FnOk P w K mg base (CXa P) k f fd ps sp :=
  ⟨F.len, fun A outer s H args us vs Q E h1 h2 h3 h4 h5 => codeAny_mono (F.run A outer s H args us vs Q E h1 h2 h3 h4 h5) fun r s' q => by
    cases r with
    | error e => exact ⟨w, q⟩
    | ok f => cases f <;> exact q⟩
/-- the end: a law by its own answer -/
theorem end_of {l : PySem.W.OpenLaw} {w : World} {fa : Addr} {x : Str} {fu k L n : Nat} (X : K.In h) (G : h.Ns mainGlobals mg) (T : ∃ fdf : Nat → FuncData, TxOk K mg ⟨K, fun c => He.ga K (Γ.cl c).name, fun c => (Γ.cl c).fields⟩ Γ (mkSx Γ ci dv code) pf ⟨fun k => .int (ci.getD k 0), fun g => He.fAd K (atG Γ g), fdf, dvV⟩ ∧ ∀ g, g < Γ.fns.length → ∃ d, fn[g]? = some d ∧ FunD K d.name d.qual d.params d.body d.scope (d.dvs K) (d.kws K) (He.fAd K d.at_) (fdf g))
    (hL : L < Γ.fns.length) (hps : (Γ.fn L).ps = [x]) (hcl : (Γ.fn L).cls = none) (hb : ∀ d fd, fn[L]? = some d → FunD K d.name d.qual d.params d.body d.scope (d.dvs K) (d.kws K) (He.fAd K d.at_) fd → ∀ (s : Shared) (u : Value), BindsTo s fd ⟨[u], []⟩ [(x, u)]) (hmg : mg (Γ.fn L).name = some (.ref fa)) (hk : ∀ ns : List Int, ns.length ≤ n → ∃ h', callM (mkSx Γ ci dv code) fu k L [.rol (ns.map .int)] [] = .ok (.bl true) h') :
    ∃ (K' : PySem.W.Frag) (fd : FuncData) (sp : Sp), K'.In h ∧ (∀ (s : Shared) (u : Value), BindsTo s fd ⟨[u], []⟩ [(x, u)]) ∧
        (∀ (H : Hp) (a : Addr) (ns : List Int), ns.length ≤ n → Only H → SqL K' H a (ns.map V.int) → sp [.ref a] H (fun v _ => v = .bl true) fun _ _ _ => False) ∧
        ∀ base : Heap, K'.In base → base.Ns mainGlobals mg → FnOk l.prog w K' mg base (CXa l.prog) (2 * k) fa fd [x] sp := by
  obtain ⟨fdf, T, D⟩ := T
  have ea : fa = He.fAd K (atG Γ L) := by
    have := T.gl L hL hcl
    rw [hmg] at this
    cases this
    rfl
  refine ⟨K, fdf L, spM ⟨K, fun c => He.ga K (Γ.cl c).name, fun c => (Γ.cl c).fields⟩ Γ (mkSx Γ ci dv code) pf fu k L, X, fun s u => ?_, fun H a ns hl hO hS => end_sp hps hO hS (hk ns hl), fun base _ _ => ?_⟩
  · obtain ⟨d, e, F⟩ := D L hL
    exact hb d _ e F s u
  · have := fn_all T (Pr := l.prog) (w := w) (base := base) fu k L hL
    rw [hps] at this
    rw [ea]
    exact wideX this
end
end MP

set_option Elab.async false
set_option linter.all false
set_option maxRecDepth 100000
set_option maxHeartbeats 4000000
namespace MP
open PySem PySem.Spec PyProof.Rows L2
/-! ### reckoning with lists of ints -/
abbrev di (ns : List Int) : List D := ns.map .int
theorem pls_ints (n : Nat) : ∀ ns : List Int, pls n (di ns) = true
  | [] => by simp [pls]
  | a :: r => by
    show ((D.int a).pl n && pls n (di r)) = true
    rw [pls_ints n r]
    cases n <;> rfl
theorem py_ints : ∀ ns : List Int, pys (di ns) = ns.map PyData.int
  | [] => rfl
  | a :: r => by
    show (D.int a).py :: pys (di r) = _
    rw [py_ints r]
    rfl
theorem eqv_int (a b : Int) : PyData.eqv (.int a) (.int b) = decide (a = b) := by
  rw [PyData.eqv]
  rfl
theorem eqvAll_ints : ∀ a b : List Int, PyData.eqvAll (a.map PyData.int) (b.map PyData.int) = decide (a = b)
  | [], [] => by simp [PyData.eqvAll]
  | [], _ :: _ => by simp [PyData.eqvAll]
  | _ :: _, [] => by simp [PyData.eqvAll]
  | x :: a, y :: b => by
    simp only [List.map_cons, PyData.eqvAll, eqv_int, eqvAll_ints a b, List.cons.injEq, Bool.decide_and]
theorem pl_int (n : Nat) (a : Int) : (D.int a).pl n = true := by cases n <;> rfl
theorem pl_non (n : Nat) : D.non.pl n = true := by cases n <;> rfl
theorem pl_lst (a : List Int) (n : Nat) : (D.lst (di a)).pl (n + 1) = true := by
  show pls n (di a) = true
  exact pls_ints n a
theorem eq_ii (a b : Int) : cmpD .eq (.int a) (.int b) = some (decide (a = b)) := by
  show (if ((D.int a).pl 60 && (D.int b).pl 60) = true then some (PyData.eqv (.int a) (.int b)) else none) = _
  rw [pl_int, pl_int, eqv_int]
  rfl
theorem ne_ii (a b : Int) : cmpD .ne (.int a) (.int b) = some (!decide (a = b)) := by
  show (if ((D.int a).pl 60 && (D.int b).pl 60) = true then some (!PyData.eqv (.int a) (.int b)) else none) = _
  rw [pl_int, pl_int, eqv_int]
  rfl
/-- a number or None -/
def oi : Option Int → D
  | none => .non
  | some a => .int a
theorem oi_pl (a : Option Int) (n : Nat) : (oi a).pl n = true := by cases a <;> cases n <;> rfl
theorem oi_eqv (a b : Option Int) : PyData.eqv (oi a).py (oi b).py = decide (a = b) := by
  cases a <;> cases b
  · simp [oi, D.py, PyData.eqv]
  · simp [oi, D.py, PyData.eqv]
  · simp [oi, D.py, PyData.eqv]
  · simp only [oi, D.py, eqv_int, Option.some.injEq]
theorem eq_oo (a b : Option Int) : cmpD .eq (oi a) (oi b) = some (decide (a = b)) := by
  show (if ((oi a).pl 60 && (oi b).pl 60) = true then some (PyData.eqv (oi a).py (oi b).py) else none) = _
  rw [oi_pl, oi_pl, oi_eqv]
  rfl
theorem ne_oo (a b : Option Int) : cmpD .ne (oi a) (oi b) = some (!decide (a = b)) := by
  show (if ((oi a).pl 60 && (oi b).pl 60) = true then some (!PyData.eqv (oi a).py (oi b).py) else none) = _
  rw [oi_pl, oi_pl, oi_eqv]
  rfl
theorem ne_ll (a b : List Int) : cmpD .ne (.lst (di a)) (.lst (di b)) = some (!decide (a = b)) := by
  show (if ((D.lst (di a)).pl 60 && (D.lst (di b)).pl 60) = true then some (!PyData.eqv (.list (pys (di a))) (.list (pys (di b)))) else none) = _
  rw [pl_lst, pl_lst, py_ints, py_ints, PyData.eqv, eqvAll_ints]
  rfl
theorem eq_ll (a b : List Int) : cmpD .eq (.lst (di a)) (.lst (di b)) = some (decide (a = b)) := by
  show (if ((D.lst (di a)).pl 60 && (D.lst (di b)).pl 60) = true then some (PyData.eqv (.list (pys (di a))) (.list (pys (di b)))) else none) = _
  rw [pl_lst, pl_lst, py_ints, py_ints, PyData.eqv, eqvAll_ints]
  rfl
theorem any_ints (x : Option Int) : ∀ ns : List Int, ((di ns).any fun z => PyData.eqv z.py (oi x).py) = decide (∃ a, x = some a ∧ a ∈ ns)
  | [] => by simp
  | a :: r => by
    have e : PyData.eqv (D.int a).py (oi x).py = decide (some a = x) := oi_eqv (some a) x
    show ((PyData.eqv (D.int a).py (oi x).py) || (di r).any fun z => PyData.eqv z.py (oi x).py) = _
    rw [any_ints x r, e]
    cases x with
    | none => simp
    | some b =>
      by_cases h : a = b
      · simp [h]
      · simp [h]
        exact fun z => (h z.symm).elim
theorem in_oi (x : Option Int) (ns : List Int) : cmpD .isin (oi x) (.lst (di ns)) = some (decide (∃ a, x = some a ∧ a ∈ ns)) := by
  show (if ((oi x).pl 60 && pls 60 (di ns)) = true then some ((di ns).any fun z => PyData.eqv z.py (oi x).py) else none) = _
  rw [oi_pl, pls_ints, any_ints]
  rfl
theorem nin_oi (x : Option Int) (ns : List Int) : cmpD .ntin (oi x) (.lst (di ns)) = some (!decide (∃ a, x = some a ∧ a ∈ ns)) := by
  show (if ((oi x).pl 60 && pls 60 (di ns)) = true then some (!(di ns).any fun z => PyData.eqv z.py (oi x).py) else none) = _
  rw [oi_pl, pls_ints, any_ints]
  rfl
/-! ### sorting -/
theorem le_int (a b : Int) : PySem.W.dataLe false D.py (.int a) (.int b) = decide (a ≤ b) := by
  show (!PyProof.Rows.lexLt itemOrd [.inl b] [.inl a]) = _
  simp only [PyProof.Rows.lexLt, itemOrd, itemLt]
  by_cases h : b < a
  · simp [h, Int.not_le.mpr h]
  · simp [h, Int.not_lt.mp h]
theorem sort_int (ns : List Int) : sortD (di ns) = some (di (ns.mergeSort fun a b => decide (a ≤ b))) := by
  unfold sortD
  rw [if_pos]
  · congr 1
    symm
    exact List.map_mergeSort fun a _ b _ => (le_int a b).symm
  · refine ⟨pls_ints _ _, ?_, .inr ?_⟩
    · intro d hd d' hd'
      rw [py_ints] at hd hd'
      obtain ⟨a, _, rfl⟩ := List.mem_map.mp hd
      obtain ⟨b, _, rfl⟩ := List.mem_map.mp hd'
      rfl
    · intro d hd
      rw [py_ints] at hd
      obtain ⟨a, _, rfl⟩ := List.mem_map.mp hd
      exact ⟨fun z => (nomatch z), fun _ z => nomatch z⟩
abbrev dp (p : Int × Int) : D := .tup [.int p.1, .int p.2]
theorem le_pair (p q : Int × Int) : PySem.W.dataLe false D.py (dp p) (dp q) = (decide (p.1 < q.1) || (decide (p.1 = q.1) && decide (p.2 ≤ q.2))) := by
  show (!PyProof.Rows.lexLt itemOrd [.inl 1, .inl q.1, .inl 1, .inl q.2, .inl 0] [.inl 1, .inl p.1, .inl 1, .inl p.2, .inl 0]) = _
  simp only [PyProof.Rows.lexLt, itemOrd, itemLt]
  by_cases h1 : q.1 < p.1
  · simp [h1]
    omega
  · by_cases h2 : p.1 < q.1
    · simp [h1, h2]
    · have e : p.1 = q.1 := by omega
      by_cases h3 : q.2 < p.2
      · simp [h1, h2, e, h3]
      · simp [h1, h2, e, h3]
        omega
theorem py_pairs : ∀ ns : List (Int × Int), pys (ns.map dp) = ns.map fun p => PyData.tuple [.int p.1, .int p.2]
  | [] => rfl
  | a :: r => by
    show (dp a).py :: pys (r.map dp) = _
    rw [py_pairs r]
    rfl
theorem pls_pairs (n : Nat) : ∀ ns : List (Int × Int), pls (n + 1) (ns.map dp) = true
  | [] => by simp [pls]
  | a :: r => by
    show ((dp a).pl (n + 1) && pls (n + 1) (r.map dp)) = true
    rw [pls_pairs n r]
    cases n <;> rfl
theorem sort_pair (ns : List (Int × Int)) : sortD (ns.map dp) = some ((ns.mergeSort fun p q => (decide (p.1 < q.1) || (decide (p.1 = q.1) && decide (p.2 ≤ q.2)))).map dp) := by
  unfold sortD
  rw [if_pos]
  · congr 1
    symm
    exact List.map_mergeSort fun a _ b _ => (le_pair a b).symm
  · refine ⟨pls_pairs _ _, ?_, .inl ?_⟩
    · intro d hd d' hd'
      rw [py_pairs] at hd hd'
      obtain ⟨a, _, rfl⟩ := List.mem_map.mp hd
      obtain ⟨b, _, rfl⟩ := List.mem_map.mp hd'
      rfl
    · intro d hd
      rw [py_pairs] at hd
      obtain ⟨a, _, rfl⟩ := List.mem_map.mp hd
      exact ⟨_, _, rfl⟩
/-! ### comprehensions and loops -/
theorem compL_ok {f : D → MH → Out (Option D)} {g : D → Option D} {h : MH} : ∀ (ds acc : List D), (∀ d ∈ ds, f d h = .ok (g d) h) → compL f ds acc h = .ok (acc ++ ds.filterMap g) h
  | [], acc, _ => by simp [compL]
  | d :: r, acc, k => by
    unfold compL
    rw [k d (by simp)]
    show compL f r _ h = _
    rw [compL_ok r _ fun d' hd => k d' (by simp [hd])]
    cases e : g d <;> simp [e]
theorem ev_comp {S : Sm} {e : E} {t : T} {it : I} {c : O} {own : List Nat} {b : Bool} {env : MEnv} {h : MH} {ds : List D} (g : D → Option D) (hi : evI S it true env h = .ok ds h) (hl : ds.length ≤ 16777216) (hb : ∀ d ∈ ds, bodyC S e t c own env d h = .ok (g d) h) :
    ev S (.comp e t it c own) b env h = .ok (.lst (ds.filterMap g)) h := by
  rw [ev, hi]
  show (if lim ds.length = true then ((compL (bodyC S e t c own env) ds [] h).bind fun ys h2 => Out.ok (D.lst ys) h2).noX else .bad) = _
  have l1 : lim ds.length = true := decide_eq_true hl
  rw [if_pos l1, compL_ok ds [] hb]
  rfl
theorem fm_ints {g : D → Option D} {g' : Int → Option D} : ∀ (ns : List Int), (∀ a ∈ ns, g (.int a) = g' a) → (di ns).filterMap g = ns.filterMap g'
  | [], _ => rfl
  | a :: r, k => by
    show (D.int a :: di r).filterMap g = _
    rw [List.filterMap_cons, List.filterMap_cons, k a (by simp), fm_ints r fun b hb => k b (by simp [hb])]
theorem fm_filter (p : Int → Bool) : ∀ ns : List Int, (ns.filterMap fun a => if p a = true then some (D.int a) else none) = di (ns.filter p)
  | [] => rfl
  | a :: r => by
    rw [List.filterMap_cons]
    cases e : p a
    · simp [e]
      exact fm_filter p r
    · simp [e]
      exact fm_filter p r
/-- a comprehension over ints -/
theorem ev_compI {S : Sm} {e : E} {t : T} {it : I} {c : O} {own : List Nat} {b : Bool} {env : MEnv} {h : MH} {ns : List Int} (g : Int → Option D) (hi : evI S it true env h = .ok (di ns) h) (hl : ns.length ≤ 16777216) (hb : ∀ a ∈ ns, bodyC S e t c own env (.int a) h = .ok (g a) h) :
    ev S (.comp e t it c own) b env h = .ok (.lst (ns.filterMap g)) h := by
  rw [ev_comp (fun d => match d with | .int a => g a | _ => none) hi (by simpa using hl) (fun d hd => by
    obtain ⟨a, ha, rfl⟩ := List.mem_map.mp hd
    exact hb a ha)]
  rw [fm_ints ns fun a _ => rfl]
/-- a filter of ints -/
theorem ev_filter {S : Sm} {e : E} {t : T} {it : I} {c : O} {own : List Nat} {b : Bool} {env : MEnv} {h : MH} {ns : List Int} (p : Int → Bool) (hi : evI S it true env h = .ok (di ns) h) (hl : ns.length ≤ 16777216) (hb : ∀ a ∈ ns, bodyC S e t c own env (.int a) h = .ok (if p a = true then some (.int a) else none) h) :
    ev S (.comp e t it c own) b env h = .ok (.lst (di (ns.filter p))) h := by
  rw [ev_compI (fun a => if p a = true then some (.int a) else none) hi hl hb, fm_filter]
theorem view_false (h : MH) (d : D) : view h false d = d := by cases d <;> rfl
theorem view_lst (h : MH) (b : Bool) (xs : List D) : view h b (.lst xs) = .lst xs := by cases b <;> rfl
theorem view_int (h : MH) (b : Bool) (i : Int) : view h b (.int i) = .int i := by cases b <;> rfl
theorem view_oi (h : MH) (b : Bool) (i : Option Int) : view h b (oi i) = oi i := by cases b <;> cases i <;> rfl
theorem ix0 (n : Nat) : L2.ixN (n + 1) 0 = some 0 := by
  unfold L2.ixN
  simp
theorem ixn {n i : Nat} (hi : i < n) : L2.ixN n (i : Int) = some i := by
  unfold L2.ixN
  simp [hi]
theorem at0 {a : D} {r : List D} : L2.atI (a :: r) 0 = some a := by
  unfold L2.atI
  simp [ix0]
theorem lt_int (a b : Int) : PySem.W.dataLt (.int a) (.int b) = decide (a < b) := by
  show PyProof.Rows.lexLt itemOrd [.inl a] [.inl b] = _
  simp only [PyProof.Rows.lexLt, itemOrd, itemLt]
  simp
theorem imms_ints : ∀ ns : List Int, imms (di ns) = true
  | [] => rfl
  | a :: r => by
    show (D.imm (.int a) && imms (di r)) = true
    rw [imms_ints r]
    rfl
theorem alike_ints (ns : List Int) : PySem.W.AlikeAll (pys (di ns)) := by
  rw [py_ints]
  refine ⟨fun x hx y hy => ?_, fun x hx => ?_⟩
  · obtain ⟨a, _, rfl⟩ := List.mem_map.mp hx
    obtain ⟨b, _, rfl⟩ := List.mem_map.mp hy
    rfl
  · obtain ⟨a, _, rfl⟩ := List.mem_map.mp hx
    exact fun z => nomatch z
theorem fold_int {lt : PyData → PyData → Bool} {p : Int → Int → Prop} [DecidableRel p] (hl : ∀ a b, lt (.int a) (.int b) = decide (p a b)) : ∀ (r : List Int) (a : Int), (di r).foldl (fun a y => if lt y.py a.py then y else a) (D.int a) = .int (r.foldl (fun a y => if p y a then y else a) a)
  | [], a => rfl
  | b :: r, a => by
    show (di r).foldl _ (if lt (.int b) (.int a) = true then D.int b else D.int a) = _
    rw [hl, List.foldl_cons]
    by_cases z : p b a
    · simp only [z, decide_true, if_true]
      exact fold_int hl r b
    · simp only [z, decide_false, if_false, Bool.false_eq_true]
      exact fold_int hl r a
theorem min_int (a : Int) (r : List Int) : biD .min [.lst (di (a :: r))] = some (.int (r.foldl (fun a y => if y < a then y else a) a)) := by
  show pickD (fun y a => PySem.W.dataLt y a) (D.int a :: di r) = _
  unfold pickD
  dsimp only
  rw [if_pos ⟨imms_ints (a :: r), pls_ints _ (a :: r), alike_ints (a :: r)⟩, fold_int lt_int]
theorem foldmin_asc : ∀ (r : List Int) (a : Int), (∀ b ∈ r, a < b) → r.foldl (fun a y => if y < a then y else a) a = a
  | [], _, _ => rfl
  | b :: r, a, k => by
    rw [List.foldl_cons, if_neg (by have := k b (by simp); omega)]
    exact foldmin_asc r a fun c hc => k c (by simp [hc])
theorem min_asc {a : Int} {r : List Int} (h : (a :: r).Pairwise (· < ·)) : biD .min [.lst (di (a :: r))] = some (.int a) := by
  rw [min_int, foldmin_asc r a (List.pairwise_cons.mp h).1]
/-! ### dicts of ints -/
abbrev dkv (G : List (Int × Int)) : List (KK × D) := G.map fun p => ((.inl (.inl p.1) : KK), D.int p.2)
theorem kinds_dkv : ∀ G : List (Int × Int), kinds true (dkv G) = true
  | [] => rfl
  | p :: r => by
    have := kinds_dkv r
    simp only [kinds, dkv, List.map_cons, List.all_cons] at this ⊢
    rw [this]
    rfl
theorem kget_dkv (n : Int) : ∀ G : List (Int × Int), kget (dkv G) (.inl (.inl n)) = (G.lookup n).map D.int
  | [] => rfl
  | p :: r => by
    obtain ⟨a, b⟩ := p
    have ih := kget_dkv n r
    unfold kget at ih ⊢
    simp only [dkv, List.map_cons, List.find?_cons] at ih ⊢
    rw [List.lookup_cons]
    by_cases z : a = n
    · subst z
      simp
    · have z1 : decide (((.inl (.inl a) : KK)) = .inl (.inl n)) = false := by simp [z]
      have z2 : (n == a) = false := by
        simp
        exact fun q => z q.symm
      rw [z1, z2]
      exact ih
/-- the count under a key -/
def gv (G : List (Int × Int)) (n : Int) : Int := (G.lookup n).getD 0
theorem get_gv (G : List (Int × Int)) (n : Int) : (kget (dkv G) (.inl (.inl n))).getD (.int 0) = .int (gv G n) := by
  rw [kget_dkv]
  unfold gv
  cases G.lookup n <;> rfl
/-- loops -/
theorem loopF_ok {f : D → MEnv → MH → SR} (I : Nat → MEnv → MH → Prop) : ∀ (ds : List D) (i : Nat) (e : MEnv) (h : MH), I i e h → (∀ j d e h, ds[j]? = some d → I (i + j) e h → ∃ e1 h1, (f d e h = .nx e1 h1 ∨ f d e h = .cnt e1 h1) ∧ I (i + j + 1) e1 h1) → ∃ e1 h1, loopF f ds e h = .nx e1 h1 ∧ I (i + ds.length) e1 h1
  | [], i, e, h, p, _ => ⟨e, h, rfl, p⟩
  | d :: r, i, e, h, p, k => by
    obtain ⟨e1, h1, q1, q2⟩ := k 0 d e h rfl p
    have q2 : I (i + 1) e1 h1 := q2
    obtain ⟨e2, h2, q3, q4⟩ := loopF_ok I r (i + 1) e1 h1 q2 fun j d e h hj pj => by
      have := k (j + 1) d e h (by simpa using hj)
      rw [show i + (j + 1) = i + 1 + j by omega] at this
      exact this pj
    refine ⟨e2, h2, ?_, by rw [List.length_cons, show i + (r.length + 1) = i + 1 + r.length by omega]; exact q4⟩
    unfold loopF
    rcases q1 with q1 | q1 <;> rw [q1] <;> exact q3
end MP

set_option Elab.async false
set_option linter.all false
set_option maxRecDepth 100000
set_option maxHeartbeats 4000000
namespace MP
/-! ### reckoning by simp -/
section
variable {S : Sm} {fu : Nat} {b : Bool} {env : MEnv} {h : MH} {α β : Type}
@[simp] theorem ok_bind {m : α} {f : α → MH → Out β} : (Out.ok m h).bind f = f m h := (rfl)
@[simp] theorem bad_bind {f : α → MH → Out β} : (Out.bad : Out α).bind f = .bad := (rfl)
@[simp] theorem exc_bind {f : α → MH → Out β} {c p e} : (Out.exc c p e h : Out α).bind f = .exc c p e h := (rfl)
@[simp] theorem ok_bindS {m : α} {f : α → MH → SR} : bindS (Out.ok m h) env f = f m h := (rfl)
@[simp] theorem bad_bindS {f : α → MH → SR} : bindS (Out.bad : Out α) env f = .bad := (rfl)
@[simp] theorem exc_bindS {f : α → MH → SR} {c p e} : bindS (Out.exc c p e h : Out α) env f = .exc c p env h := (rfl)
@[simp] theorem ite_bind {c : Prop} [Decidable c] {x y : Out α} {f : α → MH → Out β} : (if c then x else y).bind f = if c then x.bind f else y.bind f := by split <;> rfl
@[simp] theorem ite_bindS {c : Prop} [Decidable c] {x y : Out α} {f : α → MH → SR} : bindS (if c then x else y) env f = if c then bindS x env f else bindS y env f := by split <;> rfl
@[simp] theorem ofO_some {a : α} : ofO (some a) h = .ok a h := (rfl)
@[simp] theorem ofO_none : ofO (none : Option α) h = .bad := (rfl)
@[simp] theorem ok_noX {a : α} : (Out.ok a h).noX = .ok a h := (rfl)
@[simp] theorem endR_nx {e : MEnv} : endR (.nx e h) = .ok .non h := (rfl)
@[simp] theorem endR_ret {d : D} : endR (.ret d h) = .ok d h := (rfl)
@[simp] theorem endR_exc {c p} {e : MEnv} : endR (.exc c p e h) = .exc c p [] h := (rfl)
@[simp] theorem endR_ite {c : Prop} [Decidable c] {x y : SR} : endR (if c then x else y) = if c then endR x else endR y := by split <;> rfl
@[simp] theorem get_val {d : D} : (Sl.val d).get b h = some (view h b d) := (rfl)
@[simp] theorem get_ol {xs : List D} : (Sl.ol xs).get true h = some (.lst xs) := (rfl)
@[simp] theorem get_od {xs} : (Sl.od xs).get true h = some (.dic xs) := (rfl)
@[simp] theorem get_ol' {xs : List D} : (Sl.ol xs).get false h = none := (rfl)
@[simp] theorem get_od' {xs} : (Sl.od xs).get false h = none := (rfl)
@[simp] theorem view_f {d : D} : view h false d = d := by cases d <;> rfl
@[simp] theorem view_i {i : Int} : view h b (.int i) = .int i := by cases b <;> rfl
@[simp] theorem view_s {i : PySem.Str} : view h b (.str i) = .str i := by cases b <;> rfl
@[simp] theorem view_b {i : Bool} : view h b (.bl i) = .bl i := by cases b <;> rfl
@[simp] theorem view_n : view h b .non = .non := by cases b <;> rfl
@[simp] theorem view_l {i} : view h b (.lst i) = .lst i := by cases b <;> rfl
@[simp] theorem view_ro {i} : view h b (.rol i) = .rol i := by cases b <;> rfl
@[simp] theorem view_t {i} : view h b (.tup i) = .tup i := by cases b <;> rfl
@[simp] theorem view_d {i} : view h b (.dic i) = .dic i := by cases b <;> rfl
@[simp] theorem view_ins {c i} : view h b (.ins c i) = .ins c i := by cases b <;> rfl
@[simp] theorem view_o {i} : view h b (oi i) = oi i := by cases b <;> cases i <;> rfl
@[simp] theorem view_ite {c : Prop} [Decidable c] {x y : D} : view h b (if c then x else y) = if c then view h b x else view h b y := by split <;> rfl
/-! expressions -/
@[simp] theorem r_var {i} : ev S (.var i) b env h = (match env[i]? with | some s => ofO (s.get b h) h | none => .bad) := by rw [ev] <;> rfl
@[simp] theorem r_non : ev S (.lit .non) b env h = .ok .non h := by rw [ev] <;> rfl
@[simp] theorem r_bl {c} : ev S (.lit (.bl c)) b env h = .ok (.bl c) h := by rw [ev] <;> rfl
@[simp] theorem r_int {i} : ev S (.lit (.int i)) b env h = .ok (.int i) h := by rw [ev] <;> rfl
@[simp] theorem r_str {i} : ev S (.lit (.str i)) b env h = .ok (.str i) h := by rw [ev] <;> rfl
@[simp] theorem r_glb {k} : ev S (.glb k) b env h = .ok (S.con k) h := by rw [ev] <;> rfl
@[simp] theorem r_bty {n} : ev S (.bty n) b env h = .ok (.ty n) h := by rw [ev] <;> rfl
@[simp] theorem r_tup {es} : ev S (.tup es) b env h = (evs S es false env h).bind fun ds h1 => .ok (.tup ds) h1 := by rw [ev] <;> rfl
@[simp] theorem r_lst {es} : ev S (.lst es) b env h = (evs S es false env h).bind fun ds h1 => .ok (.lst ds) h1 := by rw [ev] <;> rfl
@[simp] theorem r_dsp {ps} : ev S (.dsp ps) b env h = (evp S ps env h).bind fun kvs h1 => if kvs.length ≤ 15 then .ok (.dic (mergeD [] kvs)) h1 else .bad := by rw [ev] <;> rfl
@[simp] theorem r_bin {op a c} : ev S (.bin op a c) b env h = (ev S a true env h).bind fun x h1 => (ev S c true env h1).bind fun y h2 => ofO (binD op x y) h2 := by rw [ev] <;> rfl
@[simp] theorem r_neg {a} : ev S (.neg a) b env h = (ev S a true env h).bind fun x h1 => (match x with | .int i => .ok (.int (-i)) h1 | _ => .bad) := by rw [ev] <;> rfl
@[simp] theorem r_not {a} : ev S (.not a) b env h = (ev S a true env h).bind fun x h1 => (match x with | .bl c => .ok (.bl (!c)) h1 | _ => .bad) := by rw [ev] <;> rfl
@[simp] theorem r_andl {es} : ev S (.andl es) b env h = evAnd S es env h := by rw [ev] <;> rfl
@[simp] theorem r_orl {es} : ev S (.orl es) b env h = evOr S es env h := by rw [ev] <;> rfl
def ifB {α : Type} (x : D) (a c : Out α) : Out α := match x with | .bl true => a | .bl false => c | _ => .bad
def ifS (x : D) (a c : SR) : SR := match x with | .bl true => a | .bl false => c | _ => .bad
@[simp] theorem ifS_b {p : Bool} {a c : SR} : ifS (.bl p) a c = if p = true then a else c := by cases p <;> rfl
@[simp] theorem ifB_b {p : Bool} {a c : Out α} : ifB (.bl p) a c = if p = true then a else c := by cases p <;> rfl
@[simp] theorem r_ife {c a e} : ev S (.ife c a e) b env h = (ev S c true env h).bind fun x h1 => ifB x (ev S a b env h1) (ev S e b env h1) := by
  rw [ev] <;> rfl

@[simp] theorem r_cmp {op a c} : ev S (.cmp op a c) b env h = (ev S a true env h).bind fun x h1 => (ev S c true env h1).bind fun y h2 => ofO ((cmpD op x y).map .bl) h2 := by rw [ev] <;> rfl
@[simp] theorem r_isN {a} : ev S (.isN a) b env h = (ev S a true env h).bind fun x h1 => .ok (.bl x.isN) h1 := by rw [ev] <;> rfl
@[simp] theorem r_ntN {a} : ev S (.ntN a) b env h = (ev S a true env h).bind fun x h1 => .ok (.bl (!x.isN)) h1 := by rw [ev] <;> rfl
@[simp] theorem r_idx {a i} : ev S (.idx a i) b env h = (ev S a true env h).bind fun x h1 => (ev S i false env h1).bind fun y h2 => ofO ((idxD x y).map (view h2 b)) h2 := by rw [ev] <;> rfl
@[simp] theorem r_slc {a lo hi} : ev S (.slc a lo hi) b env h = (ev S a true env h).bind fun x h1 => (evo S lo env h1).bind fun l h2 => (evo S hi env h2).bind fun u h3 => ofO (slcD x l u) h3 := by rw [ev] <;> rfl
@[simp] theorem r_fld {c j a} : ev S (.fld c j a) b env h = (ev S a false env h).bind fun x h1 => ofO (fldD x c j b h1) h1 := by rw [ev] <;> rfl
def callB (b : Bool) (env : MEnv) (m : Out D) : Out D := match m with | .ok d h2 => .ok (view h2 b d) h2 | .exc c p _ h2 => .exc c p env h2 | .bad => .bad
@[simp] theorem callB_ok {d} : callB b env (.ok d h) = .ok (view h b d) h := (rfl)
@[simp] theorem callB_exc {c p e} : callB b env (.exc c p e h) = .exc c p env h := (rfl)
@[simp] theorem callB_ite {c : Prop} [Decidable c] {x y : Out D} : callB b env (if c then x else y) = if c then callB b env x else callB b env y := by split <;> rfl
@[simp] theorem r_call {g es} : ev S (.call g es) b env h = (evs S es false env h).bind fun ds h1 => callB b env (S.call g (ds ++ S.dv g es.len) h1) := by
  rw [ev] <;> rfl
@[simp] theorem r_meth {g o es} : ev S (.meth g o es) b env h = (ev S o false env h).bind fun x h1 => if clsD x h1 = S.cls g ∧ (S.cls g).isSome = true then (evs S es false env h1).bind fun ds h2 => callB b env (S.call g (x :: (ds ++ S.dv g (es.len + 1))) h2) else .bad := by
  rw [ev] <;> rfl
noncomputable def newB (env : MEnv) (n c : Nat) (fz : Bool) (h1 : MH) (m : Out D) : Out D := match m with
    | .ok .non h2 => if fz then freeze h1 c h2 else .ok (.ref n) h2
    | .ok _ _ => .bad
    | .exc x p _ h2 => .exc x p env h2
    | .bad => .bad
@[simp] theorem newB_ok {n c h1} : newB env n c false h1 (.ok .non h) = .ok (.ref n) h := (rfl)
@[simp] theorem newB_okf {n c h1} : newB env n c true h1 (.ok .non h) = freeze h1 c h := (rfl)
@[simp] theorem newB_exc {n c fz h1 x p e} : newB env n c fz h1 (.exc x p e h) = .exc x p env h := (rfl)
@[simp] theorem r_new {c es fz} : ev S (.new c es fz) b env h = (evs S es false env h).bind fun ds h1 => newB env h1.length c fz h1 (S.call (S.init c) (.ref h1.length :: (ds ++ S.dv (S.init c) (es.len + 1))) (h1 ++ [.ins c (List.replicate (S.nf c) .un)])) := by
  rw [ev] <;> rfl
@[simp] theorem r_bi {m es} : ev S (.bi m es) b env h = (evs S es true env h).bind fun ds h1 => ofO (biD m ds) h1 := by rw [ev] <;> rfl
def get1D (x y : D) : Option D := match x with | .dic kvs => y.key.bind fun k => if KK.flat k && kinds true kvs then some ((kget kvs k).getD .non) else none | _ => none
def get2D (x y z : D) : Option D := match x with | .dic kvs => y.key.bind fun k => if KK.flat k && kinds true kvs then some ((kget kvs k).getD z) else none | _ => none
theorem r_get1 {o y} {kvs} (e : ev S o true env h = .ok (.dic kvs) h) : ev S (.bm .get1 o (.cons y .nil)) b env h = (ev S y false env h).bind fun y h2 => ofO ((get1D (.dic kvs) y).map (view h2 b)) h2 := by
  rw [ev, e]
  simp only [ok_bind]
  rw [evs]
  cases ev S y false env h <;> try rfl


theorem r_get2 {o y z} {kvs} (e : ev S o true env h = .ok (.dic kvs) h) : ev S (.bm .get2 o (.cons y (.cons z .nil))) b env h = (ev S y false env h).bind fun y h2 => (ev S z false env h2).bind fun z h3 => ofO ((get2D (.dic kvs) y z).map (view h3 b)) h3 := by
  rw [ev, e]
  simp only [ok_bind]
  rw [evs]
  cases ev S y false env h with
  | ok y h2 =>
    simp only [ok_bind, evs]
    cases ev S z false env h2 <;> rfl
  | exc => rfl
  | bad => rfl
@[simp] theorem r_rng {tl a} : ev S (.rng tl a) b env h = (ev S a true env h).bind fun x h1 => (match x with
    | .int n => if n ≤ 16777216 ∧ -16777216 ≤ n then .ok (if tl then .tup (rngD 0 n.toNat) else .lst (rngD 0 n.toNat)) h1 else .bad
    | _ => .bad) := by rw [ev] <;> rfl
@[simp] theorem rs_nil : evs S .nil b env h = .ok [] h := by rw [evs] <;> rfl
@[simp] theorem rs_cons {e r} : evs S (.cons e r) b env h = (ev S e b env h).bind fun d h1 => (evs S r b env h1).bind fun ds h2 => .ok (d :: ds) h2 := by rw [evs] <;> rfl
@[simp] theorem rp_nil : evp S .nil env h = .ok [] h := by rw [evp] <;> rfl
@[simp] theorem rp_cons {k v r} : evp S (.cons k v r) env h = (ev S k false env h).bind fun x h1 => (ev S v false env h1).bind fun y h2 => (evp S r env h2).bind fun t h3 => (match x.key0 with
    | some q => .ok ((.inl q, y) :: t) h3
    | none => .bad) := by rw [evp] <;> rfl
@[simp] theorem ra_one {e} : evAnd S (.cons e .nil) env h = (ev S e true env h).bind fun x h1 => ifB x (.ok (.bl true) h1) (.ok (.bl false) h1) := by
  rw [evAnd]; congr 1; funext x h1; cases x <;> try rfl
  rename_i q; cases q <;> rfl
@[simp] theorem ra_more {e e2 r} : evAnd S (.cons e (.cons e2 r)) env h = (ev S e true env h).bind fun x h1 => ifB x (evAnd S (.cons e2 r) env h1) (.ok (.bl false) h1) := by
  rw [evAnd]; congr 1; funext x h1; cases x <;> try rfl
  rename_i q; cases q <;> rfl
@[simp] theorem ro_one {e} : evOr S (.cons e .nil) env h = (ev S e true env h).bind fun x h1 => ifB x (.ok (.bl true) h1) (.ok (.bl false) h1) := by
  rw [evOr]; congr 1; funext x h1; cases x <;> try rfl
  rename_i q; cases q <;> rfl
@[simp] theorem ro_more {e e2 r} : evOr S (.cons e (.cons e2 r)) env h = (ev S e true env h).bind fun x h1 => ifB x (.ok (.bl true) h1) (evOr S (.cons e2 r) env h1) := by
  rw [evOr]; congr 1; funext x h1; cases x <;> try rfl
  rename_i q; cases q <;> rfl
/-- the ends true and false joined -/
@[simp] theorem if_tf {p : Prop} [Decidable p] : (if p then Out.ok (D.bl true) h else .ok (.bl false) h) = .ok (.bl (decide p)) h := by by_cases q : p <;> simp [q]
@[simp] theorem if_ft {p : Prop} [Decidable p] : (if p then Out.ok (D.bl false) h else .ok (.bl true) h) = .ok (.bl (!decide p)) h := by by_cases q : p <;> simp [q]
@[simp] theorem if_bf {p : Prop} {q : Bool} [Decidable p] : (if p then Out.ok (D.bl q) h else .ok (.bl false) h) = .ok (.bl (decide p && q)) h := by by_cases z : p <;> simp [z]
@[simp] theorem if_tb {p : Prop} {q : Bool} [Decidable p] : (if p then Out.ok (D.bl true) h else .ok (.bl q) h) = .ok (.bl (decide p || q)) h := by by_cases z : p <;> simp [z]
@[simp] theorem if_bt {p : Prop} {q : Bool} [Decidable p] : (if p then Out.ok (D.bl q) h else .ok (.bl true) h) = .ok (.bl (!decide p || q)) h := by by_cases z : p <;> simp [z]
@[simp] theorem if_fb {p : Prop} {q : Bool} [Decidable p] : (if p then Out.ok (D.bl false) h else .ok (.bl q) h) = .ok (.bl (!decide p && q)) h := by by_cases z : p <;> simp [z]
@[simp] theorem rq_no : evo S .no env h = .ok none h := by rw [evo] <;> rfl
@[simp] theorem rq_yes {e} : evo S (.yes e) env h = (ev S e true env h).bind fun x h1 => (match x with | .int i => .ok (some i) h1 | _ => .bad) := by rw [evo] <;> rfl
def boolO (x : D) (h : MH) : Out Bool := match x with | .bl k => .ok k h | _ => .bad
@[simp] theorem boolO_b {k} : boolO (.bl k) h = .ok k h := (rfl)
@[simp] theorem rc_no : evc S .no env h = .ok true h := by rw [evc] <;> rfl
@[simp] theorem rc_yes {e} : evc S (.yes e) env h = (ev S e true env h).bind fun x h1 => boolO x h1 := by rw [evc] <;> rfl
@[simp] theorem ri_val {e} : evI S (.val e) b env h = (ev S e b env h).bind fun x h1 => ofO x.seq h1 := by rw [evI] <;> rfl
theorem rngD_di (n : Nat) : rngD 0 n = (List.range n).map fun i => .int (i : Nat) := by
  unfold rngD
  simp
@[simp] theorem ri_rng1 {a} : evI S (.rng1 a) b env h = (ev S a true env h).bind fun x h1 => (match x with | .int n => if -4611686018427387904 ≤ n ∧ n < 4611686018427387904 then .ok ((List.range n.toNat).map fun i => D.int (i : Nat)) h1 else .bad | _ => .bad) := by
  rw [evI]; congr 1; funext x h1; cases x <;> try rfl
  simp only [rngD_di]
@[simp] theorem ri_rng2 {a c} : evI S (.rng2 a c) b env h = (ev S a true env h).bind fun x h1 => (ev S c true env h1).bind fun y h2 => (match x, y with
    | .int n, .int m => if -4611686018427387904 ≤ n ∧ n < 4611686018427387904 ∧ -4611686018427387904 ≤ m ∧ m < 4611686018427387904 then .ok ((List.range (m - n).toNat).map fun i => D.int (n + (i : Nat))) h2 else .bad
    | _, _ => .bad) := by rw [evI] <;> rfl
@[simp] theorem ri_enum {e} : evI S (.enum e) b env h = (ev S e b env h).bind fun x h1 => (match x with
    | .lst xs => .ok (enumD 0 xs) h1
    | .rol xs => .ok (enumD 0 xs) h1
    | _ => .bad) := by rw [evI] <;> rfl
@[simp] theorem ri_zip {a c} : evI S (.zip a c) b env h = (ev S a b env h).bind fun x h1 => (ev S c b env h1).bind fun y h2 => (match x, y with
    | .lst xs, .lst ys => .ok (zipPair xs ys) h2
    | .tup xs, .tup ys => .ok (zipPair xs ys) h2
    | _, _ => .bad) := by rw [evI] <;> rfl
/-! comprehensions -/
def compX (f : α → MH → Out (Option D)) : List α → List D → MH → Out (List D)
  | [], acc, h => .ok acc h
  | d :: r, acc, h => (f d h).bind fun x h1 => compX f r (match x with | some y => acc ++ [y] | none => acc) h1
theorem compL_compX (f : D → MH → Out (Option D)) (g : α → D) : ∀ (xs : List α) (acc : List D) (h : MH), compL f (xs.map g) acc h = compX (fun x h => f (g x) h) xs acc h
  | [], _, _ => rfl
  | x :: r, acc, h => by
    show (f (g x) h).bind _ = (f (g x) h).bind _
    congr 1
    funext y h1
    exact compL_compX f g r _ h1
theorem compX_congr {f g : α → MH → Out (Option D)} {xs ys : List α} {acc : List D} {h : MH} (e : xs = ys) (k : ∀ x, x ∈ ys → ∀ h, f x h = g x h) : compX f xs acc h = compX g ys acc h := by
  subst e
  induction xs generalizing acc h with
  | nil => rfl
  | cons x r ih =>
    unfold compX
    rw [k x (by simp)]
    congr 1
    funext y h1
    exact ih fun x hx => k x (by simp [hx])
@[simp] theorem compX_some {g : α → D} : ∀ {xs : List α} {acc : List D} {h : MH}, compX (fun x h => .ok (some (g x)) h) xs acc h = .ok (acc ++ xs.map g) h
  | [], acc, h => by simp [compX]
  | x :: r, acc, h => by
    unfold compX
    simp only [ok_bind]
    rw [compX_some]
    simp
def ifO {α : Type} (k : Bool) (a c : Out α) : Out α := if k then a else c
@[simp] theorem ifO_t {a c : Out α} : ifO true a c = a := (rfl)
@[simp] theorem ifO_f {a c : Out α} : ifO false a c = c := (rfl)
@[simp] theorem compX_if {p : α → Bool} {g : α → D} : ∀ {xs : List α} {acc : List D} {h : MH}, compX (fun x h => ifO (p x) (.ok (some (g x)) h) (.ok none h)) xs acc h = .ok (acc ++ (xs.filter p).map g) h
  | [], acc, h => by simp [compX]
  | x :: r, acc, h => by
    unfold compX
    cases q : p x
    · simp only [ifO_f, ok_bind]
      rw [compX_if]
      simp [q]
    · simp only [ifO_t, ok_bind]
      rw [compX_if]
      simp [q]
@[simp] theorem r_comp {e t it c own} : ev S (.comp e t it c own) b env h = (evI S it true env h).bind fun ds h1 => if ds.length ≤ 16777216 then
      ((compL (bodyC S e t c own env) ds [] h1).bind fun ys h2 => .ok (.lst ys) h2).noX else .bad := by
  rw [ev]
  simp only [lim, decide_eq_true_eq]
  rfl
@[simp] theorem comp_map {e t c own} {xs : List α} {g : α → D} {acc : List D} : compL (bodyC S e t c own env) (xs.map g) acc h = compX (fun x h => bodyC S e t c own env (g x) h) xs acc h := compL_compX _ _ _ _ _
theorem compL_app (f : D → MH → Out (Option D)) : ∀ (xs ys acc : List D) (h : MH), compL f (xs ++ ys) acc h = (compL f xs acc h).bind fun acc h => compL f ys acc h
  | [], _, _, _ => rfl
  | x :: r, ys, acc, h => by
    show (f x h).bind _ = ((f x h).bind _).bind _
    cases f x h with
    | ok y h1 => exact compL_app f r ys _ h1
    | exc => rfl
    | bad => rfl
@[simp] theorem comp_app {e t c own} {xs ys acc : List D} : compL (bodyC S e t c own env) (xs ++ ys) acc h = (compL (bodyC S e t c own env) xs acc h).bind fun acc h => compL (bodyC S e t c own env) ys acc h := compL_app _ _ _ _ _
@[simp] theorem comp_nil {e t c own} {acc : List D} : compL (bodyC S e t c own env) [] acc h = .ok acc h := (rfl)
@[simp] theorem comp_cons {e t c own} {x : D} {xs acc : List D} : compL (bodyC S e t c own env) (x :: xs) acc h = (bodyC S e t c own env x h).bind fun x h1 => compL (bodyC S e t c own env) xs (match x with | some y => acc ++ [y] | none => acc) h1 := (rfl)
@[simp] theorem r_body {e t c own} {d : D} : bodyC S e t c own env d h = (match asg t d (wipeE env own) with
        | some e1 => (evc S c e1 h).bind fun k h3 => ifO k ((ev S e false e1 h3).bind fun y h4 => .ok (some y) h4) (.ok none h3)
        | none => .bad) := rfl
@[simp] theorem wipe_nil : wipeE env [] = env := (rfl)
@[simp] theorem wipe_cons {v vs} : wipeE env (v :: vs) = (wipeE env vs).set v .un := (rfl)
@[simp] theorem asg_name {i d} : asg (.name i) d env = if i < env.length then some (env.set i (.val d)) else none := by rw [asg] <;> rfl
@[simp] theorem asg_tup {ts xs} : asg (.tup ts) (.tup xs) env = asgL ts xs env := by rw [asg] <;> rfl
@[simp] theorem asgL_nil : asgL .nil [] env = some env := by rw [asgL] <;> rfl
@[simp] theorem asgL_cons {t r d ds} : asgL (.cons t r) (d :: ds) env = (asg t d env).bind fun e1 => asgL r ds e1 := by rw [asgL] <;> rfl
/-! statements -/
@[simp] theorem xb_nil : execB S fu .nil env h = .nx env h := by rw [execB] <;> rfl
def thenS (r : SR) (k : MEnv → MH → SR) : SR := match r with | .nx e h => k e h | x => x
@[simp] theorem then_nx {k : MEnv → MH → SR} : thenS (.nx env h) k = k env h := (rfl)
@[simp] theorem then_ret {k : MEnv → MH → SR} {d} : thenS (.ret d h) k = .ret d h := (rfl)
@[simp] theorem then_brk {k : MEnv → MH → SR} : thenS (.brk env h) k = .brk env h := (rfl)
@[simp] theorem then_cnt {k : MEnv → MH → SR} : thenS (.cnt env h) k = .cnt env h := (rfl)
@[simp] theorem then_exc {k : MEnv → MH → SR} {c p} : thenS (.exc c p env h) k = .exc c p env h := (rfl)
@[simp] theorem then_bad {k : MEnv → MH → SR} : thenS .bad k = .bad := (rfl)
@[simp] theorem then_ite {k : MEnv → MH → SR} {c : Prop} [Decidable c] {x y : SR} : thenS (if c then x else y) k = if c then thenS x k else thenS y k := by split <;> rfl
@[simp] theorem xb_cons {s r} : execB S fu (.cons s r) env h = thenS (MP.exec S fu s env h) (fun e1 h1 => execB S fu r e1 h1) := by
  rw [execB]; unfold thenS; rfl
@[simp] theorem x_set {i e} : MP.exec S fu (.set i e .val) env h = bindS (ev S e false env h) env fun d h1 => if i < env.length then .nx (env.set i (.val d)) h1 else .bad := by rw [MP.exec] <;> rfl
def ownS (env : MEnv) (i : Nat) (d : D) (h : MH) : SR := match d with
      | .lst xs => .nx (env.set i (.ol xs)) h
      | .dic kvs => .nx (env.set i (.od kvs)) h
      | _ => .bad
@[simp] theorem ownS_l {i xs} : ownS env i (.lst xs) h = .nx (env.set i (.ol xs)) h := (rfl)
@[simp] theorem ownS_d {i xs} : ownS env i (.dic xs) h = .nx (env.set i (.od xs)) h := (rfl)
@[simp] theorem x_own {i e} : MP.exec S fu (.set i e .own) env h = bindS (ev S e false env h) env fun d h1 => if i < env.length then ownS env i d h1 else .bad := by rw [MP.exec] <;> rfl
def objS (env : MEnv) (i : Nat) (d : D) (h : MH) : SR := match d with
      | .lst xs => .nx (env.set i (.val (.ref h.length))) (h ++ [.lst xs])
      | .dic kvs => .nx (env.set i (.val (.ref h.length))) (h ++ [.dic kvs])
      | _ => .bad
@[simp] theorem objS_l {i xs} : objS env i (.lst xs) h = .nx (env.set i (.val (.ref h.length))) (h ++ [.lst xs]) := (rfl)
@[simp] theorem objS_d {i xs} : objS env i (.dic xs) h = .nx (env.set i (.val (.ref h.length))) (h ++ [.dic xs]) := (rfl)
@[simp] theorem x_obj {i e} : MP.exec S fu (.set i e .obj) env h = bindS (ev S e false env h) env fun d h1 => if i < env.length then objS env i d h1 else .bad := by rw [MP.exec] <;> rfl
@[simp] theorem x_tset {t e} : MP.exec S fu (.tset t e) env h = bindS (ev S e false env h) env fun d h1 => (match asg t d env with | some e1 => .nx e1 h1 | none => .bad) := by rw [MP.exec] <;> rfl
@[simp] theorem x_par {i j a c} : MP.exec S fu (.par i j a c) env h = bindS (ev S a false env h) env fun x h1 => bindS (ev S c false env h1) env fun y h2 => if i < env.length ∧ j < env.length then .nx ((env.set i (.val x)).set j (.val y)) h2 else .bad := by rw [MP.exec] <;> rfl
@[simp] theorem x_aug {i op e} : MP.exec S fu (.aug i op e) env h = (match env[i]? with
    | some (.val x) => bindS (ev S e true env h) env fun y h1 => (match in2D op x y with
      | some z => .nx (env.set i (.val z)) h1
      | none => .bad)
    | _ => .bad) := by rw [MP.exec] <;> rfl
def retV (env : MEnv) (i : Nat) (h : MH) : SR := match env[i]? with
      | some (.ol xs) => .ret (.lst xs) h
      | some (.od kvs) => .ret (.dic kvs) h
      | some (.val d) => .ret d h
      | _ => .bad
theorem x_ret {e} : MP.exec S fu (.ret e) env h = (match varK e with
    | some i => retV env i h
    | none => bindS (ev S e false env h) env fun d h1 => .ret d h1) := by rw [MP.exec] <;> rfl
def slR (s : Sl) (h : MH) : SR := match s with
      | .ol xs => .ret (.lst xs) h
      | .od kvs => .ret (.dic kvs) h
      | .val d => .ret d h
      | .un => .bad
@[simp] theorem slR_ol {xs} : slR (.ol xs) h = .ret (.lst xs) h := (rfl)
@[simp] theorem slR_od {xs} : slR (.od xs) h = .ret (.dic xs) h := (rfl)
@[simp] theorem slR_val {d} : slR (.val d) h = .ret d h := (rfl)
@[simp] theorem x_retv {i} : MP.exec S fu (.ret (.var i)) env h = (match env[i]? with | some s => slR s h | none => .bad) := by
  rw [x_ret]
  show retV env i h = _
  unfold retV
  cases env[i]? with
  | none => rfl
  | some s => cases s <;> rfl
noncomputable def retE (S : Sm) (e : E) (env : MEnv) (h : MH) : SR := bindS (ev S e false env h) env fun d h1 => .ret d h1
@[simp] theorem r_retE {e} : retE S e env h = bindS (ev S e false env h) env fun d h1 => .ret d h1 := (rfl)
theorem x_retn {e} (k : varK e = none) : MP.exec S fu (.ret e) env h = retE S e env h := by rw [x_ret, k]; rfl
@[simp] theorem x_ret_lit {l} : MP.exec S fu (.ret (.lit l)) env h = retE S (.lit l) env h := x_retn rfl
@[simp] theorem x_ret_glb {k} : MP.exec S fu (.ret (.glb k)) env h = retE S (.glb k) env h := x_retn rfl
@[simp] theorem x_ret_tup {es} : MP.exec S fu (.ret (.tup es)) env h = retE S (.tup es) env h := x_retn rfl
@[simp] theorem x_ret_lst {es} : MP.exec S fu (.ret (.lst es)) env h = retE S (.lst es) env h := x_retn rfl
@[simp] theorem x_ret_dsp {es} : MP.exec S fu (.ret (.dsp es)) env h = retE S (.dsp es) env h := x_retn rfl
@[simp] theorem x_ret_bin {o a c} : MP.exec S fu (.ret (.bin o a c)) env h = retE S (.bin o a c) env h := x_retn rfl
@[simp] theorem x_ret_neg {a} : MP.exec S fu (.ret (.neg a)) env h = retE S (.neg a) env h := x_retn rfl
@[simp] theorem x_ret_not {a} : MP.exec S fu (.ret (.not a)) env h = retE S (.not a) env h := x_retn rfl
@[simp] theorem x_ret_andl {a} : MP.exec S fu (.ret (.andl a)) env h = retE S (.andl a) env h := x_retn rfl
@[simp] theorem x_ret_orl {a} : MP.exec S fu (.ret (.orl a)) env h = retE S (.orl a) env h := x_retn rfl
@[simp] theorem x_ret_ife {c a e} : MP.exec S fu (.ret (.ife c a e)) env h = retE S (.ife c a e) env h := x_retn rfl
@[simp] theorem x_ret_cmp {o a c} : MP.exec S fu (.ret (.cmp o a c)) env h = retE S (.cmp o a c) env h := x_retn rfl
@[simp] theorem x_ret_isN {a} : MP.exec S fu (.ret (.isN a)) env h = retE S (.isN a) env h := x_retn rfl
@[simp] theorem x_ret_ntN {a} : MP.exec S fu (.ret (.ntN a)) env h = retE S (.ntN a) env h := x_retn rfl
@[simp] theorem x_ret_idx {a i} : MP.exec S fu (.ret (.idx a i)) env h = retE S (.idx a i) env h := x_retn rfl
@[simp] theorem x_ret_slc {a l u} : MP.exec S fu (.ret (.slc a l u)) env h = retE S (.slc a l u) env h := x_retn rfl
@[simp] theorem x_ret_fld {c j a} : MP.exec S fu (.ret (.fld c j a)) env h = retE S (.fld c j a) env h := x_retn rfl
@[simp] theorem x_ret_call {g a} : MP.exec S fu (.ret (.call g a)) env h = retE S (.call g a) env h := x_retn rfl
@[simp] theorem x_ret_meth {g o a} : MP.exec S fu (.ret (.meth g o a)) env h = retE S (.meth g o a) env h := x_retn rfl
@[simp] theorem x_ret_new {c a z} : MP.exec S fu (.ret (.new c a z)) env h = retE S (.new c a z) env h := x_retn rfl
@[simp] theorem x_ret_bi {m a} : MP.exec S fu (.ret (.bi m a)) env h = retE S (.bi m a) env h := x_retn rfl
@[simp] theorem x_ret_bm {m o a} : MP.exec S fu (.ret (.bm m o a)) env h = retE S (.bm m o a) env h := x_retn rfl
@[simp] theorem x_ret_rng {m a} : MP.exec S fu (.ret (.rng m a)) env h = retE S (.rng m a) env h := x_retn rfl
@[simp] theorem x_ret_comp {e t i c o} : MP.exec S fu (.ret (.comp e t i c o)) env h = retE S (.comp e t i c o) env h := x_retn rfl
@[simp] theorem x_retN : MP.exec S fu .retN env h = .ret .non h := by rw [MP.exec] <;> rfl
@[simp] theorem x_iff {c a e} : MP.exec S fu (.iff c a e) env h = bindS (ev S c true env h) env fun d h1 => ifS d (execB S fu a env h1) (execB S fu e env h1) := by
  rw [MP.exec] <;> rfl

@[simp] theorem x_brk : MP.exec S fu .brk env h = .brk env h := by rw [MP.exec] <;> rfl
@[simp] theorem x_cnt : MP.exec S fu .cnt env h = .cnt env h := by rw [MP.exec] <;> rfl
@[simp] theorem x_pass : MP.exec S fu .pass env h = .nx env h := by rw [MP.exec] <;> rfl
/-! places -/
@[simp] theorem plc_ol {l : Loc} {xs} : plc l (.ol xs) = some l := (rfl)
@[simp] theorem plc_od {l : Loc} {xs} : plc l (.od xs) = some l := (rfl)
@[simp] theorem plc_ref {l : Loc} {r} : plc l (.val (.ref r)) = some (.ob r) := (rfl)
@[simp] theorem p_var {i} : evP S (.var i) env h = (match env[i]? with | some s => ofO (plc (.sl i) s) h | none => .bad) := by rw [evP] <;> rfl
def fldP (d : D) (c j : Nat) (h1 : MH) : Out Loc := match d with
    | .ref r => match h1[r]? with
      | some (.ins c' fs) => if c' = c then match fs[j]? with
        | some s => ofO (plc (.fl r j) s) h1
        | none => .bad else .bad
      | _ => .bad
    | _ => .bad
@[simp] theorem p_fld {c j x} : evP S (.fld c j x) env h = (ev S x false env h).bind fun d h1 => fldP d c j h1 := by rw [evP] <;> rfl
theorem fldP_ref {r c j : Nat} {fs : List Sl} {s : Sl} (e : h[r]? = some (.ins c fs)) (k : fs[j]? = some s) : fldP (.ref r) c j h = ofO (plc (.fl r j) s) h := by
  unfold fldP
  dsimp only
  rw [e]
  dsimp only
  rw [if_pos rfl, k]
@[simp] theorem getL_sl {i} : getL env h (.sl i) = env[i]? := (rfl)
theorem getL_fl {r j c : Nat} {fs : List Sl} (e : h[r]? = some (.ins c fs)) : getL env h (.fl r j) = fs[j]? := by
  unfold getL
  dsimp only
  rw [e]
theorem getL_obl {r : Nat} {xs} (e : h[r]? = some (.lst xs)) : getL env h (.ob r) = some (.ol xs) := by
  unfold getL
  dsimp only
  rw [e]
theorem getL_obd {r : Nat} {xs} (e : h[r]? = some (.dic xs)) : getL env h (.ob r) = some (.od xs) := by
  unfold getL
  dsimp only
  rw [e]
@[simp] theorem putL_sl {i s} : putL env h (.sl i) s = .nx (env.set i s) h := (rfl)
theorem putL_fl {r j c : Nat} {fs : List Sl} {s : Sl} (e : h[r]? = some (.ins c fs)) : putL env h (.fl r j) s = .nx env (h.set r (.ins c (fs.set j s))) := by
  unfold putL setH setE
  dsimp only
  rw [e]
@[simp] theorem putL_obl {r : Nat} {xs} : putL env h (.ob r) (.ol xs) = .nx env (h.set r (.lst xs)) := (rfl)
@[simp] theorem putL_obd {r : Nat} {xs} : putL env h (.ob r) (.od xs) = .nx env (h.set r (.dic xs)) := (rfl)
def setiS (env : MEnv) (h : MH) (l : Loc) (k d : D) : Option Sl → SR
    | some (.ol xs) => match k with
      | .int j => match L2.ixN xs.length j with
        | some n => putL env h l (.ol (xs.set n d))
        | none => .bad
      | _ => .bad
    | some (.od kvs) => match k.key with
      | some q => if KK.flat q && kinds true kvs && lim (kvs.length + 1) then putL env h l (.od (kput kvs q d)) else .bad
      | none => .bad
    | _ => .bad
@[simp] theorem x_seti {o i e} : MP.exec S fu (.seti o i e) env h = bindS (ev S e false env h) env fun d h1 => bindS (evP S o env h1) env fun l h2 => bindS (ev S i false env h2) env fun k h3 => setiS env h3 l k d (getL env h3 l) := by rw [MP.exec] <;> rfl
@[simp] theorem setiS_ol {l j d xs} : setiS env h l (.int j) d (some (.ol xs)) = (match L2.ixN xs.length j with | some n => putL env h l (.ol (xs.set n d)) | none => .bad) := (rfl)
@[simp] theorem setiS_od {l k d kvs} : setiS env h l k d (some (.od kvs)) = (match k.key with
      | some q => if KK.flat q = true ∧ kinds true kvs = true ∧ kvs.length + 1 ≤ 16777216 then putL env h l (.od (kput kvs q d)) else .bad
      | none => .bad) := by
  unfold setiS
  dsimp only
  cases k.key with
  | none => rfl
  | some q => simp only [Bool.and_eq_true, lim, decide_eq_true_eq, and_assoc]
/-! calls as statements -/
noncomputable def exE (S : Sm) (e : E) (env : MEnv) (h : MH) : SR := bindS (ev S e true env h) env fun _ h1 => .nx env h1
@[simp] theorem r_exE {e} : exE S e env h = bindS (ev S e true env h) env fun _ h1 => .nx env h1 := (rfl)
theorem x_exn {e} (k : exK e = none) : MP.exec S fu (.ex e) env h = exE S e env h := by
  rw [MP.exec, k]
  rfl
@[simp] theorem x_ex_call {g a} : MP.exec S fu (.ex (.call g a)) env h = exE S (.call g a) env h := x_exn rfl
@[simp] theorem x_ex_meth {g o a} : MP.exec S fu (.ex (.meth g o a)) env h = exE S (.meth g o a) env h := x_exn rfl
@[simp] theorem x_ex_new {c a z} : MP.exec S fu (.ex (.new c a z)) env h = exE S (.new c a z) env h := x_exn rfl
def appS (env : MEnv) (h : MH) (o : E) (l : Loc) (d : D) : Option Sl → SR
  | some (.ol xs) => if xs.length + 1 ≤ 16777216 ∧ okP o l = true then putL env h l (.ol (xs ++ [d])) else .bad
  | _ => .bad
@[simp] theorem appS_ol {o l d xs} : appS env h o l d (some (.ol xs)) = if xs.length + 1 ≤ 16777216 ∧ okP o l = true then putL env h l (.ol (xs ++ [d])) else .bad := (rfl)
def isOl : Option Sl → Bool
  | some (.ol _) => true
  | _ => false
@[simp] theorem isOl_ol {xs} : isOl (some (.ol xs)) = true := (rfl)
@[simp] theorem x_app {o a} : MP.exec S fu (.ex (.bm .append o (.cons a .nil))) env h = bindS (evP S o env h) env fun l h1 => if isOl (getL env h1 l) = true then bindS (ev S a false env h1) env fun d h2 => appS env h2 o l d (getL env h2 l) else .bad := by
  rw [MP.exec]
  show bindS (evP S o env h) env _ = _
  congr 1
  funext l h1
  cases e : getL env h1 l with
  | none => rfl
  | some s =>
    cases s <;> try rfl
    show bindS (ev S a false env h1) env _ = bindS (ev S a false env h1) env _
    congr 1
    funext d h2
    cases e2 : getL env h2 l with
    | none => rfl
    | some s =>
      cases s <;> try rfl
      simp only [appS, Bool.and_eq_true, lim, decide_eq_true_eq]
def extS (env : MEnv) (h : MH) (o : E) (l : Loc) (d : D) : Option Sl → SR
  | some (.ol xs) => match d with
    | .lst ys => if xs.length + ys.length ≤ 16777216 ∧ okP o l = true then putL env h l (.ol (xs ++ ys)) else .bad
    | _ => .bad
  | _ => .bad
@[simp] theorem extS_ol {o l ys xs} : extS env h o l (.lst ys) (some (.ol xs)) = if xs.length + ys.length ≤ 16777216 ∧ okP o l = true then putL env h l (.ol (xs ++ ys)) else .bad := (rfl)
@[simp] theorem x_ext {o a} : MP.exec S fu (.ex (.bm .extend o (.cons a .nil))) env h = bindS (evP S o env h) env fun l h1 => if isOl (getL env h1 l) = true then bindS (ev S a true env h1) env fun d h2 => extS env h2 o l d (getL env h2 l) else .bad := by
  rw [MP.exec]
  show bindS (evP S o env h) env _ = _
  congr 1
  funext l h1
  cases e : getL env h1 l with
  | none => rfl
  | some s =>
    cases s <;> try rfl
    show bindS (ev S a true env h1) env _ = bindS (ev S a true env h1) env _
    congr 1
    funext d h2
    cases e2 : getL env h2 l with
    | none => rfl
    | some s =>
      cases s <;> try rfl
      cases d <;> try rfl
      simp only [extS, Bool.and_eq_true, lim, decide_eq_true_eq]
@[simp] theorem okP_sl {e i} : okP e (.sl i) = true := by cases e <;> rfl
@[simp] theorem okP_fl {e r j} : okP e (.fl r j) = true := by cases e <;> rfl
/-! fields -/
def setfS (c j : Nat) (d : D) (env : MEnv) (h : MH) (x : D) : SR := match x with
      | .ref r => match h[r]? with
        | some (.ins c' fs) => if c' = c ∧ j < fs.length then .nx env (h.set r (.ins c (fs.set j (.val d)))) else .bad
        | _ => .bad
      | _ => .bad
@[simp] theorem x_setf {c j o e} : MP.exec S fu (.setf c j o e .val) env h = bindS (ev S e false env h) env fun d h1 => bindS (ev S o false env h1) env fun x h2 => setfS c j d env h2 x := by rw [MP.exec] <;> rfl
theorem setfS_ref {c j : Nat} {d : D} {r : Nat} {fs : List Sl} (e : h[r]? = some (.ins c fs)) (k : j < fs.length) : setfS c j d env h (.ref r) = .nx env (h.set r (.ins c (fs.set j (.val d)))) := by
  unfold setfS
  dsimp only
  rw [e]
  dsimp only
  rw [if_pos ⟨rfl, k⟩]
theorem fldD_ref {r c j : Nat} {fs : List Sl} {s : Sl} (e : h[r]? = some (.ins c fs)) (k : fs[j]? = some s) : fldD (.ref r) c j b h = s.get b h := by
  unfold fldD
  dsimp only
  rw [e]
  dsimp only
  rw [if_pos rfl, k]
theorem fldD_ins {c j : Nat} {fs : List (Option D)} {d : D} (k : fs[j]? = some (some d)) : fldD (.ins c fs) c j b h = some (view h b d) := by
  unfold fldD
  dsimp only
  rw [if_pos rfl, k]
theorem clsD_ref {r c : Nat} {fs : List Sl} (e : h[r]? = some (.ins c fs)) : clsD (.ref r) h = some c := by
  unfold clsD
  dsimp only
  rw [e]
@[simp] theorem clsD_ins {c fs} : clsD (.ins c fs) h = some c := (rfl)
/-! loops -/
noncomputable def forB (S : Sm) (fu : Nat) (t : T) (bd : Sb) (d : D) (e : MEnv) (h : MH) : SR := match asg t d e with | some e1 => execB S fu bd e1 h | none => .bad
theorem r_forB {t bd d} : forB S fu t bd d env h = (match asg t d env with | some e1 => execB S fu bd e1 h | none => .bad) := rfl
@[simp] theorem x_for {t it bd} : MP.exec S fu (.for t it bd) env h = bindS (evI S it false env h) env fun ds h1 => loopF (forB S fu t bd) ds env h1 := by rw [MP.exec] <;> rfl
/-- a loop whose body goes on, by an invariant -/
theorem loopF_inv {f : D → MEnv → MH → SR} {g : α → D} (I : Nat → MEnv → MH → Prop) : ∀ (xs : List α) (i : Nat) (e : MEnv) (h : MH), I i e h → (∀ j x e h, xs[j]? = some x → I (i + j) e h → ∃ e1 h1, (f (g x) e h = .nx e1 h1 ∨ f (g x) e h = .cnt e1 h1) ∧ I (i + j + 1) e1 h1) → ∃ e1 h1, loopF f (xs.map g) e h = .nx e1 h1 ∧ I (i + xs.length) e1 h1
  | [], i, e, h, p, _ => ⟨e, h, rfl, p⟩
  | d :: r, i, e, h, p, k => by
    obtain ⟨e1, h1, q1, q2⟩ := k 0 d e h rfl p
    have q2 : I (i + 1) e1 h1 := q2
    obtain ⟨e2, h2, q3, q4⟩ := loopF_inv I r (i + 1) e1 h1 q2 fun j d e h hj pj => by
      have := k (j + 1) d e h (by simpa using hj)
      rw [show i + (j + 1) = i + 1 + j by omega] at this
      exact this pj
    refine ⟨e2, h2, ?_, by rw [List.length_cons, show i + (r.length + 1) = i + 1 + r.length by omega]; exact q4⟩
    rw [List.map_cons]
    unfold loopF
    rcases q1 with q1 | q1 <;> rw [q1] <;> exact q3
/-- a loop as a fold: what the slots hold is told by a state -/
theorem loopF_fold {σ : Type} {f : D → MEnv → MH → SR} {g : α → D} (mk : σ → MEnv) (step : σ → α → σ) {h : MH} : ∀ (xs : List α) (st : σ), (∀ st x, x ∈ xs → f (g x) (mk st) h = .nx (mk (step st x)) h) → loopF f (xs.map g) (mk st) h = .nx (mk (xs.foldl step st)) h
  | [], st, _ => rfl
  | x :: r, st, k => by
    rw [List.map_cons]
    unfold loopF
    rw [k st x (by simp)]
    exact loopF_fold mk step r _ fun st y hy => k st y (by simp [hy])
/-- a comprehension whose body needs to know where its item is from -/
theorem ev_compM {e t it c own} {xs : List α} {enc : α → D} (g : α → Option D) (hi : evI S it true env h = .ok (xs.map enc) h) (hl : xs.length ≤ 16777216) (hb : ∀ x, x ∈ xs → bodyC S e t c own env (enc x) h = .ok (g x) h) : ev S (.comp e t it c own) b env h = .ok (.lst (xs.filterMap g)) h := by
  rw [r_comp, hi]
  have k : ∀ (ys : List α) (acc : List D), (∀ x, x ∈ ys → x ∈ xs) → compL (bodyC S e t c own env) (ys.map enc) acc h = .ok (acc ++ ys.filterMap g) h := by
    intro ys
    induction ys with
    | nil => intro acc _; simp [compL]
    | cons y r ih =>
      intro acc hm
      rw [List.map_cons]
      unfold compL
      rw [hb y (hm y (by simp)), ok_bind, ih _ fun x hx => hm x (by simp [hx])]
      cases q : g y <;> simp [q]
  rw [ok_bind, if_pos (by simpa using hl), k xs [] fun x hx => hx]
  simp
/-- the same without a condition -/
theorem ev_mapM {e t it own} {xs : List α} {enc : α → D} (g : α → D) (hi : evI S it true env h = .ok (xs.map enc) h) (hl : xs.length ≤ 16777216) (hb : ∀ x, x ∈ xs → bodyC S e t .no own env (enc x) h = .ok (some (g x)) h) : ev S (.comp e t it .no own) b env h = .ok (.lst (xs.map g)) h := by
  rw [ev_compM (fun x => some (g x)) hi hl hb]
  congr 2
  induction xs with
  | nil => rfl
  | cons x r ih => simp
end
/-! ### data -/
@[simp] theorem bin_add (i j : Int) : binD .add (.int i) (.int j) = some (.int (i + j)) := (rfl)
@[simp] theorem bin_sub (i j : Int) : binD .sub (.int i) (.int j) = some (.int (i - j)) := (rfl)
@[simp] theorem bin_mod (i j : Int) : binD .mod (.int i) (.int j) = if j ≠ 0 then some (.int (i.fmod j)) else none := (rfl)
@[simp] theorem bin_fdiv (i j : Int) : binD .fdiv (.int i) (.int j) = if j ≠ 0 ∧ -1073741824 < j ∧ j < 1073741824 then some (.int (i.fdiv j)) else none := (rfl)
@[simp] theorem bin_mul (i j : Int) : binD .mul (.int i) (.int j) = if (-18446744073709551616 < i ∧ i < 18446744073709551616) ∨ (-18446744073709551616 < j ∧ j < 18446744073709551616) then some (.int (i * j)) else none := (rfl)
@[simp] theorem bin_catl (xs ys : List D) : binD .add (.lst xs) (.lst ys) = if xs.length + ys.length ≤ 16777216 then some (.lst (xs ++ ys)) else none := by
  simp [binD, lim]
@[simp] theorem bin_catt (xs ys : List D) : binD .add (.tup xs) (.tup ys) = if xs.length + ys.length ≤ 16777216 then some (.tup (xs ++ ys)) else none := by
  simp [binD, lim]
@[simp] theorem cmp_lt (i j : Int) : cmpD .lt (.int i) (.int j) = some (decide (i < j)) := (rfl)
@[simp] theorem cmp_le (i j : Int) : cmpD .le (.int i) (.int j) = some (decide (i ≤ j)) := (rfl)
@[simp] theorem cmp_gt (i j : Int) : cmpD .gt (.int i) (.int j) = some (decide (j < i)) := (rfl)
@[simp] theorem cmp_ge (i j : Int) : cmpD .ge (.int i) (.int j) = some (decide (j ≤ i)) := (rfl)
@[simp] theorem seq_l (xs : List D) : (D.lst xs).seq = some xs := (rfl)
@[simp] theorem seq_t (xs : List D) : (D.tup xs).seq = some xs := (rfl)
@[simp] theorem seq_r (xs : List D) : (D.rol xs).seq = some xs := (rfl)
@[simp] theorem key_i (i : Int) : (D.int i).key = some (.inl (.inl i)) := (rfl)
@[simp] theorem key_s (i : PySem.Str) : (D.str i).key = some (.inl (.inr i)) := (rfl)
@[simp] theorem key0_i (i : Int) : (D.int i).key0 = some (.inl i) := (rfl)
@[simp] theorem key0_s (i : PySem.Str) : (D.str i).key0 = some (.inr i) := (rfl)
@[simp] theorem flat_l (k : L2.Key) : KK.flat (.inl k) = true := (rfl)
@[simp] theorem isN_n : D.non.isN = true := (rfl)
@[simp] theorem isN_i (i : Int) : (D.int i).isN = false := (rfl)
@[simp] theorem isN_t (i) : (D.tup i).isN = false := (rfl)
@[simp] theorem isN_l (i) : (D.lst i).isN = false := (rfl)
@[simp] theorem isN_r (i) : (D.ref i).isN = false := (rfl)
@[simp] theorem isN_s (i) : (D.str i).isN = false := (rfl)
@[simp] theorem isN_b (i) : (D.bl i).isN = false := (rfl)
@[simp] theorem isN_o (i : Option Int) : (oi i).isN = i.isNone := by cases i <;> rfl
section
variable (X : Sx) (call : Nat → List D → MH → Out D)
@[simp] theorem sm_call : (X.sm call).call = call := (rfl)
@[simp] theorem sm_dv : (X.sm call).dv = X.dv := (rfl)
@[simp] theorem sm_con : (X.sm call).con = X.con := (rfl)
@[simp] theorem sm_cls : (X.sm call).cls = X.cls := (rfl)
@[simp] theorem sm_nf : (X.sm call).nf = X.nf := (rfl)
@[simp] theorem sm_init : (X.sm call).init = X.init := (rfl)
end
@[simp] theorem len_nil : Es.nil.len = 0 := (rfl)
@[simp] theorem len_cons (e : E) (r : Es) : (Es.cons e r).len = r.len + 1 := (rfl)
theorem call_eq {X : Sx} {fu k g : Nat} {ds : List D} {h : MH} {c : FnC} (e : X.code g = some c) (hl : ds.length = c.np) : callM X fu (k + 1) g ds h = endR (execB (X.sm (callM X fu k)) fu c.body (startE c.N.length ds) h) := by
  rw [callM]
  rw [e]
  dsimp only
  rw [if_pos hl]
/-- what is equal just when it is the same: numbers, texts, tuples and lists of such -/
def D.cn : D → Bool
  | .non => true
  | .int _ => true
  | _ => false
end MP

set_option Elab.async false
set_option linter.all false
set_option maxRecDepth 100000
set_option maxHeartbeats 0
namespace K67
open PySem PySem.Spec MP
def pw := PySem.Challenge.rw_anyenough_k67_whole_turns_of_many_neighb.prog
def fns : List FnI := [⟨"next_of", ["numbers", "last"], none⟩, ⟨"best", ["given", "numbers"], none⟩, ⟨"__init__", ["self"], some 0⟩, ⟨"step", ["self", "wishing", "given"], some 0⟩, ⟨"leave", ["self", "number"], some 0⟩, ⟨"served", ["self"], some 0⟩, ⟨"_law_cell", ["script", "k"], none⟩, ⟨"_law_rich", ["cell", "k"], none⟩, ⟨"_law_next", ["wishing", "last"], none⟩, ⟨"_law_best", ["given", "numbers"], none⟩, ⟨"_law_turn_step", ["state", "wishing", "given"], none⟩, ⟨"_law_turn_leave", ["state", "number"], none⟩, ⟨"_law_served", ["state"], none⟩, ⟨"_law_wishing", ["rich", "before", "count"], none⟩, ⟨"law", ["script"], none⟩]
def clss : List ClsI := [⟨"Turns", ["holder", "last", "left", "rewards"], 2⟩]
def Γ : Tab := ⟨fns, clss, ["TURN", "REWARDS"], ["min", "sorted", "list", "len", "int", "range", "dict", "max", "isinstance"]⟩
def ci : List Int := [5, 2]
@[reducible] def cm0_1 : E := .comp (.var 2) (.name 2) (.val (.var 0)) (.yes (.orl (.cons (.isN (.var 1)) (.cons (.cmp .gt (.var 2) (.var 1)) .nil)))) [2]
def b0 : Sb := .cons (.set 3 cm0_1 .val) (.cons (.iff (.cmp .ne (.var 3) (.lst .nil)) (.cons (.ret (.bi .min (.cons (.var 3) .nil))) .nil) .nil) (.cons (.ret (.ife (.cmp .ne (.var 0) (.lst .nil)) (.bi .min (.cons (.var 0) .nil)) (.lit .non))) .nil))
def c0 : FnC := ⟨["numbers", "last", "number", "behind"], 2, b0⟩
@[reducible] def cm1_1 : E := .comp (.tup (.cons (.neg (.idx (.var 0) (.var 2))) (.cons (.var 2) .nil))) (.name 2) (.val (.var 1)) (.yes (.cmp .gt (.bm .get2 (.var 0) (.cons (.var 2) (.cons (.lit (.int 0)) .nil))) (.lit (.int 0)))) [2]
@[reducible] def cm1_2 : E := .comp (.var 2) (.tup (.cons (.name 4) (.cons (.name 2) .nil))) (.val (.slc (.var 3) .no (.yes (.glb 1)))) .no [4, 2]
def b1 : Sb := .cons (.set 3 (.bi .sorted (.cons cm1_1 .nil)) .val) (.cons (.ret cm1_2) .nil)
def c1 : FnC := ⟨["given", "numbers", "number", "rows", "_"], 2, b1⟩
def b2 : Sb := .cons (.setf 0 0 (.var 0) (.lit .non) .val) (.cons (.setf 0 1 (.var 0) (.lit .non) .val) (.cons (.setf 0 2 (.var 0) (.lit (.int 0)) .val) (.cons (.setf 0 3 (.var 0) (.lst .nil) .val) .nil)))
def c2 : FnC := ⟨["self"], 1, b2⟩
@[reducible] def cm3_1 : E := .comp (.var 3) (.name 3) (.val (.var 1)) (.yes (.cmp .ne (.var 3) (.fld 0 0 (.var 0)))) [3]
def st3_1 : MP.S := .iff (.cmp .gt (.fld 0 2 (.var 0)) (.lit (.int 0))) (.cons (.augf 0 2 (.var 0) .sub (.lit (.int 1))) .nil) .nil
def st3_2 : MP.S := .iff (.andl (.cons (.ntN (.fld 0 0 (.var 0))) (.cons (.cmp .isin (.fld 0 0 (.var 0)) (.var 1)) (.cons (.cmp .gt (.fld 0 2 (.var 0)) (.lit (.int 0))) .nil)))) (.cons (.ret (.lit .non)) .nil) .nil
def st3_3 : MP.S := .setf 0 0 (.var 0) (.call 0 (.cons (.var 1) (.cons (.fld 0 1 (.var 0)) .nil))) .val
def st3_4 : MP.S := .setf 0 3 (.var 0) (.call 1 (.cons (.var 2) (.cons cm3_1 .nil))) .val
def st3_5 : MP.S := .iff (.isN (.fld 0 0 (.var 0))) (.cons (.setf 0 2 (.var 0) (.lit (.int 0)) .val) (.cons (.ret (.lit .non)) .nil)) .nil
def st3_6 : MP.S := .setf 0 1 (.var 0) (.fld 0 0 (.var 0)) .val
def st3_7 : MP.S := .setf 0 2 (.var 0) (.glb 0) .val
def st3_8 : MP.S := .ret (.fld 0 0 (.var 0))
def b3 : Sb := .cons st3_1 (.cons st3_2 (.cons st3_3 (.cons st3_4 (.cons st3_5 (.cons st3_6 (.cons st3_7 (.cons st3_8 .nil)))))))
def c3 : FnC := ⟨["self", "wishing", "given", "number"], 3, b3⟩
@[reducible] def cm4_1 : E := .comp (.var 2) (.name 2) (.val (.fld 0 3 (.var 0))) (.yes (.cmp .ne (.var 2) (.var 1))) [2]
def b4 : Sb := .cons (.iff (.cmp .eq (.fld 0 0 (.var 0)) (.var 1)) (.cons (.setf 0 0 (.var 0) (.lit .non) .val) (.cons (.setf 0 2 (.var 0) (.lit (.int 0)) .val) .nil)) .nil) (.cons (.setf 0 3 (.var 0) cm4_1 .val) .nil)
def c4 : FnC := ⟨["self", "number", "other"], 2, b4⟩
def b5 : Sb := .cons (.set 1 (.bi .list (.cons (.fld 0 3 (.var 0)) .nil)) .own) (.cons (.iff (.ntN (.fld 0 0 (.var 0))) (.cons (.ex (.bm .append (.var 1) (.cons (.fld 0 0 (.var 0)) .nil))) .nil) .nil) (.cons (.ret (.bi .sorted (.cons (.var 1) .nil))) .nil))
def c5 : FnC := ⟨["self", "found"], 1, b5⟩
def b6 : Sb := .cons (.iff (.cmp .lt (.var 1) (.bi .len (.cons (.var 0) .nil))) (.cons (.ret (.bi .int (.cons (.idx (.var 0) (.var 1)) .nil))) .nil) .nil) (.cons (.ret (.lit (.int 0))) .nil)
def c6 : FnC := ⟨["script", "k"], 2, b6⟩
def b7 : Sb := .cons (.iff (.cmp .ge (.var 0) (.bin .pow (.lit (.int 10)) (.lit (.int 18)))) (.cons (.ret (.bi .int (.cons (.var 0) .nil))) .nil) .nil) (.cons (.set 2 (.bin .mod (.bi .int (.cons (.bin .add (.bin .add (.bin .mul (.var 0) (.lit (.int 48271))) (.bin .mul (.var 1) (.lit (.int 69621)))) (.lit (.int 11))) .nil)) (.lit (.int 2147483647))) .val) (.cons (.ret (.bin .add (.bin .mul (.var 2) (.lit (.int 2147483629))) (.bin .mod (.bi .int (.cons (.bin .add (.bin .mul (.var 2) (.lit (.int 16807))) (.var 0)) .nil)) (.lit (.int 2147483629))))) .nil))
def c7 : FnC := ⟨["cell", "k", "mixed"], 2, b7⟩
@[reducible] def cm8_1 : E := .comp (.var 2) (.name 2) (.val (.var 0)) (.yes (.orl (.cons (.isN (.var 1)) (.cons (.cmp .gt (.var 2) (.var 1)) .nil)))) [2]
def b8 : Sb := .cons (.set 3 cm8_1 .val) (.cons (.iff (.cmp .gt (.bi .len (.cons (.var 3) .nil)) (.lit (.int 0))) (.cons (.ret (.idx (.var 3) (.lit (.int 0)))) .nil) .nil) (.cons (.ret (.ife (.cmp .gt (.bi .len (.cons (.var 0) .nil)) (.lit (.int 0))) (.idx (.var 0) (.lit (.int 0))) (.lit .non))) .nil))
def c8 : FnC := ⟨["wishing", "last", "number", "behind"], 2, b8⟩
def bk9_1 : Sb := .cons (.set 5 (.bin .add (.var 5) (.lit (.int 1))) .val) .nil
def bk9_2 : Sb := .cons (.set 4 (.bm .get2 (.var 0) (.cons (.var 3) (.cons (.lit (.int 0)) .nil))) .val) (.cons (.set 5 (.lit (.int 0)) .val) (.cons (.whl (.andl (.cons (.cmp .lt (.var 5) (.bi .len (.cons (.var 2) .nil))) (.cons (.cmp .ge (.bm .get2 (.var 0) (.cons (.idx (.var 2) (.var 5)) (.cons (.lit (.int 0)) .nil))) (.var 4)) .nil))) bk9_1) (.cons (.iff (.cmp .gt (.var 4) (.lit (.int 0))) (.cons (.set 2 (.bin .add (.bin .add (.slc (.var 2) .no (.yes (.var 5))) (.lst (.cons (.var 3) .nil))) (.slc (.var 2) (.yes (.var 5)) .no)) .val) .nil) .nil) .nil)))
def b9 : Sb := .cons (.set 2 (.lst .nil) .val) (.cons (.for (.name 3) (.val (.var 1)) bk9_2) (.cons (.ret (.slc (.var 2) .no (.yes (.lit (.int 2))))) .nil))
def c9 : FnC := ⟨["given", "numbers", "found", "number", "count", "at"], 2, b9⟩
@[reducible] def cm10_1 : E := .comp (.var 3) (.name 3) (.val (.var 1)) (.yes (.cmp .ne (.var 3) (.idx (.var 0) (.lit (.str "holder"))))) [3]
def st10_1 : MP.S := .iff (.cmp .gt (.idx (.var 0) (.lit (.str "left"))) (.lit (.int 0))) (.cons (.seti (.var 0) (.lit (.str "left")) (.bin .sub (.idx (.var 0) (.lit (.str "left"))) (.lit (.int 1)))) .nil) .nil
def st10_2 : MP.S := .iff (.andl (.cons (.ntN (.idx (.var 0) (.lit (.str "holder")))) (.cons (.cmp .isin (.idx (.var 0) (.lit (.str "holder"))) (.var 1)) (.cons (.cmp .gt (.idx (.var 0) (.lit (.str "left"))) (.lit (.int 0))) .nil)))) (.cons (.ret (.lit .non)) .nil) .nil
def st10_3 : MP.S := .seti (.var 0) (.lit (.str "holder")) (.call 8 (.cons (.var 1) (.cons (.idx (.var 0) (.lit (.str "last"))) .nil)))
def st10_4 : MP.S := .seti (.var 0) (.lit (.str "rewards")) (.call 9 (.cons (.var 2) (.cons cm10_1 .nil)))
def st10_5 : MP.S := .iff (.isN (.idx (.var 0) (.lit (.str "holder")))) (.cons (.seti (.var 0) (.lit (.str "left")) (.lit (.int 0))) (.cons (.ret (.lit .non)) .nil)) .nil
def st10_6 : MP.S := .seti (.var 0) (.lit (.str "last")) (.idx (.var 0) (.lit (.str "holder")))
def st10_7 : MP.S := .seti (.var 0) (.lit (.str "left")) (.lit (.int 5))
def st10_8 : MP.S := .ret (.idx (.var 0) (.lit (.str "holder")))
def b10 : Sb := .cons st10_1 (.cons st10_2 (.cons st10_3 (.cons st10_4 (.cons st10_5 (.cons st10_6 (.cons st10_7 (.cons st10_8 .nil)))))))
def c10 : FnC := ⟨["state", "wishing", "given", "number"], 3, b10⟩
@[reducible] def cm11_1 : E := .comp (.var 2) (.name 2) (.val (.idx (.var 0) (.lit (.str "rewards")))) (.yes (.cmp .ne (.var 2) (.var 1))) [2]
def b11 : Sb := .cons (.iff (.cmp .eq (.idx (.var 0) (.lit (.str "holder"))) (.var 1)) (.cons (.seti (.var 0) (.lit (.str "holder")) (.lit .non)) (.cons (.seti (.var 0) (.lit (.str "left")) (.lit (.int 0))) .nil)) .nil) (.cons (.seti (.var 0) (.lit (.str "rewards")) cm11_1) .nil)
def c11 : FnC := ⟨["state", "number", "other"], 2, b11⟩
def b12 : Sb := .cons (.set 1 (.ife (.ntN (.idx (.var 0) (.lit (.str "holder")))) (.lst (.cons (.idx (.var 0) (.lit (.str "holder"))) .nil)) (.lst .nil)) .val) (.cons (.ret (.bi .sorted (.cons (.bin .add (.var 1) (.idx (.var 0) (.lit (.str "rewards")))) .nil))) .nil)
def c12 : FnC := ⟨["state", "own"], 1, b12⟩
@[reducible] def cm13_1 : E := .comp (.var 4) (.name 4) (.rng1 (.var 2)) (.yes (.cmp .ne (.bin .mod (.bin .fdiv (.var 0) (.lit (.int 5))) (.lit (.int 7))) (.bin .mod (.bi .int (.cons (.var 4) .nil)) (.lit (.int 7))))) [4]
@[reducible] def cm13_2 : E := .comp (.var 4) (.name 4) (.rng1 (.var 2)) (.yes (.orl (.cons (.cmp .ntin (.var 4) (.var 1)) (.cons (.cmp .eq (.bin .mod (.var 4) (.lit (.int 2))) (.bin .mod (.bin .fdiv (.var 0) (.lit (.int 5))) (.lit (.int 2)))) .nil)))) [4]
@[reducible] def cm13_3 : E := .comp (.var 4) (.name 4) (.val (.var 1)) (.yes (.cmp .ne (.var 4) (.var 5))) [4]
@[reducible] def cm13_4 : E := .comp (.tup (.cons (.var 4) (.cons (.lit (.bl true)) .nil))) (.name 4) (.val (.bin .add (.var 1) (.lst (.cons (.bin .mod (.bin .fdiv (.var 0) (.lit (.int 5))) (.var 2)) .nil)))) .no [4]
def b13 : Sb := .cons (.set 3 (.bin .mod (.var 0) (.lit (.int 5))) .val) (.cons (.iff (.cmp .eq (.var 3) (.lit (.int 0))) (.cons (.ret cm13_1) .nil) .nil) (.cons (.iff (.cmp .eq (.var 3) (.lit (.int 1))) (.cons (.ret cm13_2) .nil) .nil) (.cons (.iff (.cmp .eq (.var 3) (.lit (.int 2))) (.cons (.set 5 (.bin .mod (.bin .fdiv (.var 0) (.lit (.int 5))) (.var 2)) .val) (.cons (.ret cm13_3) .nil)) .nil) (.cons (.ret (.bi .sorted (.cons (.bi .dict (.cons cm13_4 .nil)) .nil))) .nil))))
def c13 : FnC := ⟨["rich", "before", "count", "kind", "number", "gone"], 3, b13⟩
@[reducible] def cm14_1 : E := .comp (.var 4) (.name 4) (.rng1 (.var 3)) .no [4]
@[reducible] def cm14_2 : E := .comp (.var 10) (.name 10) (.val (.var 5)) (.yes (.cmp .ne (.var 10) (.var 4))) [10]
@[reducible] def cm14_3 : E := .comp (.tup (.cons (.var 4) (.cons (.bin .mod (.bin .fdiv (.var 9) (.bin .add (.lit (.int 5)) (.var 4))) (.lit (.int 4))) .nil))) (.name 4) (.rng1 (.var 3)) .no [4]
def bk14_1 : Sb := .cons (.seti (.var 6) (.var 4) (.ife (.orl (.cons (.cmp .ntin (.var 4) (.var 5)) (.cons (.cmp .eq (.var 4) (.var 12)) .nil))) (.lit (.int 0)) (.bin .add (.bm .get2 (.var 6) (.cons (.var 4) (.cons (.lit (.int 0)) .nil))) (.lit (.int 1))))) (.cons (.iff (.cmp .gt (.idx (.var 6) (.var 4)) (.bin .mul (.lit (.int 5)) (.var 3))) (.cons (.ret (.lit (.bl false))) .nil) .nil) .nil)
def st14_1 : MP.S := .set 9 (.call 7 (.cons (.call 6 (.cons (.var 0) (.cons (.bin .add (.lit (.int 1)) (.bin .fdiv (.var 8) (.lit (.int 2)))) .nil))) (.cons (.var 8) .nil))) .val
def st14_2 : MP.S := .iff (.cmp .eq (.bin .mod (.bin .fdiv (.var 9) (.lit (.int 3))) (.lit (.int 3))) (.lit (.int 0))) (.cons (.set 5 (.call 13 (.cons (.bin .fdiv (.var 9) (.lit (.int 9))) (.cons (.var 5) (.cons (.var 3) .nil)))) .val) .nil) .nil
def st14_3 : MP.S := .iff (.cmp .eq (.bin .mod (.bin .fdiv (.var 9) (.lit (.int 7))) (.lit (.int 11))) (.lit (.int 0))) (.cons (.set 4 (.bin .mod (.bin .fdiv (.var 9) (.lit (.int 77))) (.var 3)) .val) (.cons (.ex (.meth 4 (.var 1) (.cons (.var 4) .nil))) (.cons (.ex (.call 11 (.cons (.var 2) (.cons (.var 4) .nil)))) (.cons (.set 5 cm14_2 .val) .nil)))) .nil
def st14_4 : MP.S := .set 11 (.bi .dict (.cons cm14_3 .nil)) .val
def st14_5 : MP.S := .set 12 (.meth 3 (.var 1) (.cons (.bi .list (.cons (.var 5) .nil)) (.cons (.bi .dict (.cons (.var 11) .nil)) .nil))) .val
def st14_6 : MP.S := .set 13 (.call 10 (.cons (.var 2) (.cons (.var 5) (.cons (.var 11) .nil)))) .val
def st14_7 : MP.S := .iff (.orl (.cons (.cmp .ne (.isN (.var 13)) (.isN (.var 12))) (.cons (.andl (.cons (.ntN (.var 13)) (.cons (.not (.bi .isi (.cons (.var 12) (.cons (.bty "int") .nil)))) .nil))) .nil))) (.cons (.ret (.lit (.bl false))) .nil) .nil
def st14_8 : MP.S := .iff (.orl (.cons (.not (.bi .isi (.cons (.meth 5 (.var 1) .nil) (.cons (.bty "list") .nil)))) (.cons (.cmp .ne (.var 12) (.var 13)) (.cons (.cmp .ne (.meth 5 (.var 1) .nil) (.call 12 (.cons (.var 2) .nil))) .nil)))) (.cons (.ret (.lit (.bl false))) .nil) .nil
def st14_9 : MP.S := .set 7 (.ife (.ntN (.var 12)) (.lit (.int 1)) (.bin .add (.var 7) (.lit (.int 1)))) .val
def st14_10 : MP.S := .set 14 (.meth 5 (.var 1) .nil) .val
def st14_11 : MP.S := .iff (.orl (.cons (.cmp .gt (.bi .len (.cons (.var 14) .nil)) (.lit (.int 3))) (.cons (.andl (.cons (.cmp .gt (.bi .len (.cons (.var 14) .nil)) (.lit (.int 0))) (.cons (.cmp .gt (.var 7) (.lit (.int 5))) .nil))) .nil))) (.cons (.ret (.lit (.bl false))) .nil) .nil
def st14_12 : MP.S := .for (.name 4) (.rng1 (.var 3)) bk14_1
def bk14_2 : Sb := .cons st14_1 (.cons st14_2 (.cons st14_3 (.cons st14_4 (.cons st14_5 (.cons st14_6 (.cons st14_7 (.cons st14_8 (.cons st14_9 (.cons st14_10 (.cons st14_11 (.cons st14_12 .nil)))))))))))
def st14_13 : MP.S := .set 1 (.new 0 .nil false) .val
def st14_14 : MP.S := .set 2 (.dsp (.cons (.lit (.str "holder")) (.lit .non) (.cons (.lit (.str "last")) (.lit .non) (.cons (.lit (.str "left")) (.lit (.int 0)) (.cons (.lit (.str "rewards")) (.lst .nil) .nil))))) .obj
def st14_15 : MP.S := .set 3 (.bin .add (.lit (.int 7)) (.bin .mod (.call 6 (.cons (.var 0) (.cons (.lit (.int 0)) .nil))) (.lit (.int 54)))) .val
def st14_16 : MP.S := .set 5 cm14_1 .val
def st14_17 : MP.S := .set 6 (.dsp .nil) .own
def st14_18 : MP.S := .set 7 (.lit (.int 0)) .val
def st14_19 : MP.S := .for (.name 8) (.rng1 (.bi .max2 (.cons (.lit (.int 30)) (.cons (.bi .min2 (.cons (.lit (.int 90)) (.cons (.bin .mul (.lit (.int 2)) (.bi .len (.cons (.var 0) .nil))) .nil))) .nil)))) bk14_2
def st14_20 : MP.S := .ret (.lit (.bl true))
def b14 : Sb := .cons st14_13 (.cons st14_14 (.cons st14_15 (.cons st14_16 (.cons st14_17 (.cons st14_18 (.cons st14_19 (.cons st14_20 .nil)))))))
def c14 : FnC := ⟨["script", "turns", "state", "count", "number", "wishing", "waits", "held", "k", "rich", "other", "given", "dealt", "due", "served"], 1, b14⟩
def code : Nat → Option FnC
  | 0 => some c0
  | 1 => some c1
  | 2 => some c2
  | 3 => some c3
  | 4 => some c4
  | 5 => some c5
  | 6 => some c6
  | 7 => some c7
  | 8 => some c8
  | 9 => some c9
  | 10 => some c10
  | 11 => some c11
  | 12 => some c12
  | 13 => some c13
  | 14 => some c14
  | _ => none
def top (i : Nat) : PySem.Stmt := pw.main.body.getD i (.Pass ⟨0, 0, 0, 0⟩)
abbrev s0 : PySem.Stmt := top 3
def d0 : He.DefD := ⟨("next_of", none), "next_of", "next_of", L2.defArgs s0, L2.defBody s0, L2.defScope s0, [], []⟩
abbrev s1 : PySem.Stmt := top 4
def d1 : He.DefD := ⟨("best", none), "best", "best", L2.defArgs s1, L2.defBody s1, L2.defScope s1, [], []⟩
abbrev s2 : PySem.Stmt := L2.inClass (top 5) 0
def d2 : He.DefD := ⟨("Turns", some "__init__"), "__init__", "Turns.__init__", L2.defArgs s2, L2.defBody s2, L2.defScope s2, [], []⟩
abbrev s3 : PySem.Stmt := L2.inClass (top 5) 1
def d3 : He.DefD := ⟨("Turns", some "step"), "step", "Turns.step", L2.defArgs s3, L2.defBody s3, L2.defScope s3, [], []⟩
abbrev s4 : PySem.Stmt := L2.inClass (top 5) 2
def d4 : He.DefD := ⟨("Turns", some "leave"), "leave", "Turns.leave", L2.defArgs s4, L2.defBody s4, L2.defScope s4, [], []⟩
abbrev s5 : PySem.Stmt := L2.inClass (top 5) 3
def d5 : He.DefD := ⟨("Turns", some "served"), "served", "Turns.served", L2.defArgs s5, L2.defBody s5, L2.defScope s5, [], []⟩
abbrev s6 : PySem.Stmt := top 7
def d6 : He.DefD := ⟨("_law_cell", none), "_law_cell", "_law_cell", L2.defArgs s6, L2.defBody s6, L2.defScope s6, [], []⟩
abbrev s7 : PySem.Stmt := top 8
def d7 : He.DefD := ⟨("_law_rich", none), "_law_rich", "_law_rich", L2.defArgs s7, L2.defBody s7, L2.defScope s7, [], []⟩
abbrev s8 : PySem.Stmt := top 9
def d8 : He.DefD := ⟨("_law_next", none), "_law_next", "_law_next", L2.defArgs s8, L2.defBody s8, L2.defScope s8, [], []⟩
abbrev s9 : PySem.Stmt := top 10
def d9 : He.DefD := ⟨("_law_best", none), "_law_best", "_law_best", L2.defArgs s9, L2.defBody s9, L2.defScope s9, [], []⟩
abbrev s10 : PySem.Stmt := top 11
def d10 : He.DefD := ⟨("_law_turn_step", none), "_law_turn_step", "_law_turn_step", L2.defArgs s10, L2.defBody s10, L2.defScope s10, [], []⟩
abbrev s11 : PySem.Stmt := top 12
def d11 : He.DefD := ⟨("_law_turn_leave", none), "_law_turn_leave", "_law_turn_leave", L2.defArgs s11, L2.defBody s11, L2.defScope s11, [], []⟩
abbrev s12 : PySem.Stmt := top 13
def d12 : He.DefD := ⟨("_law_served", none), "_law_served", "_law_served", L2.defArgs s12, L2.defBody s12, L2.defScope s12, [], []⟩
abbrev s13 : PySem.Stmt := top 14
def d13 : He.DefD := ⟨("_law_wishing", none), "_law_wishing", "_law_wishing", L2.defArgs s13, L2.defBody s13, L2.defScope s13, [], []⟩
abbrev s14 : PySem.Stmt := top 15
def d14 : He.DefD := ⟨("law", none), "law", "law", L2.defArgs s14, L2.defBody s14, L2.defScope s14, [], []⟩
def fn : List He.DefD := [d0, d1, d2, d3, d4, d5, d6, d7, d8, d9, d10, d11, d12, d13, d14]
def pf : Nat → Bool := fun g => [0, 1, 5, 6, 7, 8, 9, 12, 13].contains g
def dv : Nat → Nat → List D := fun _ _ => []
def dvV : Nat → Nat → List V := fun _ _ => []
abbrev X : Sx := mkSx Γ ci dv code
@[simp] theorem x_dv (g n : Nat) : X.dv g n = [] := (rfl)
@[simp] theorem x_cls2 : X.cls 2 = some 0 := (rfl)
@[simp] theorem x_cls3 : X.cls 3 = some 0 := (rfl)
@[simp] theorem x_cls4 : X.cls 4 = some 0 := (rfl)
@[simp] theorem x_cls5 : X.cls 5 = some 0 := (rfl)
@[simp] theorem x_con0 : X.con 0 = .int 5 := (rfl)
@[simp] theorem x_con1 : X.con 1 = .int 2 := (rfl)
@[simp] theorem x_nf0 : X.nf 0 = 4 := (rfl)
@[simp] theorem x_init0 : X.init 0 = 2 := (rfl)
end K67

set_option Elab.async false
set_option linter.all false
set_option maxRecDepth 100000
set_option maxHeartbeats 4000000
namespace K67
def lexN (c : Int → Int) (m n : Int) : Prop := c n < c m ∨ (c m = c n ∧ m ≤ n)
def insL (c : Int → Int) (F : List Int) (n : Int) : List Int := if 0 < c n then F.takeWhile (fun m => decide (c n ≤ c m)) ++ n :: F.dropWhile (fun m => decide (c n ≤ c m)) else F
def bestF (c : Int → Int) (ns : List Int) : List Int := ns.foldl (insL c) []
theorem dw_lt {c : Int → Int} {n : Int} : ∀ {F : List Int}, F.Pairwise (lexN c) → ∀ d ∈ F.dropWhile (fun m => decide (c n ≤ c m)), c d < c n
  | [], _, d, hd => by simp at hd
  | a :: r, h, d, hd => by
    rw [List.dropWhile_cons] at hd
    split at hd
    · exact dw_lt (List.pairwise_cons.mp h).2 d hd
    · rename_i z
      have z : c a < c n := by simpa using z
      rcases List.mem_cons.mp hd with rfl | hd
      · exact z
      · rcases (List.pairwise_cons.mp h).1 d hd with q | q <;> omega
theorem ins_ok {c : Int → Int} {F : List Int} {n : Int} (hs : F.Pairwise (lexN c)) (hm : ∀ m ∈ F, m < n) : (insL c F n).Pairwise (lexN c) ∧ (insL c F n).Perm (if 0 < c n then n :: F else F) := by
  unfold insL
  by_cases z : 0 < c n
  · rw [if_pos z, if_pos z]
    have e := List.takeWhile_append_dropWhile (p := fun m => decide (c n ≤ c m)) (l := F)
    have hs' := hs
    rw [← e] at hs'
    obtain ⟨h1, h2, h3⟩ := List.pairwise_append.mp hs'
    refine ⟨List.pairwise_append.mpr ⟨h1, List.pairwise_cons.mpr ⟨fun d hd => .inl (dw_lt hs d hd), h2⟩, fun a ha b hb => ?_⟩, ?_⟩
    · rcases List.mem_cons.mp hb with rfl | hb
      · have ca : c b ≤ c a := by
          have := List.all_takeWhile (p := fun m => decide (c b ≤ c m)) (l := F)
          rw [List.all_eq_true] at this
          simpa using this a ha
        have ma : a < b := hm a ((List.takeWhile_sublist _).subset ha)
        rcases Int.lt_or_eq_of_le ca with q | q
        · exact .inl q
        · exact .inr ⟨q.symm, by omega⟩
      · exact h3 a ha b hb
    · refine List.perm_middle.trans ?_
      rw [e]
  · rw [if_neg z, if_neg z]
    exact ⟨hs, List.Perm.refl _⟩
theorem best_fold {c : Int → Int} : ∀ (ns F : List Int), ns.Pairwise (· < ·) → F.Pairwise (lexN c) → (∀ m ∈ F, ∀ n ∈ ns, m < n) → (ns.foldl (insL c) F).Pairwise (lexN c) ∧ (ns.foldl (insL c) F).Perm (ns.filter (fun n => decide (0 < c n)) ++ F)
  | [], F, _, h, _ => ⟨h, by simp⟩
  | n :: r, F, ha, h, k => by
    obtain ⟨a1, a2⟩ := List.pairwise_cons.mp ha
    obtain ⟨i1, i2⟩ := ins_ok (n := n) h fun m hm => k m hm n (by simp)
    have hk : ∀ m ∈ insL c F n, ∀ x ∈ r, m < x := fun m hm x hx => by
      have := i2.subset hm
      split at this
      · rcases List.mem_cons.mp this with rfl | this
        · exact a1 x hx
        · exact k m this x (by simp [hx])
      · exact k m this x (by simp [hx])
    obtain ⟨b1, b2⟩ := best_fold r (insL c F n) a2 i1 hk
    refine ⟨b1, b2.trans ?_⟩
    rw [List.filter_cons]
    by_cases z : 0 < c n
    · rw [if_pos z] at i2
      simp only [z, decide_true, if_true]
      exact (List.Perm.append_left _ i2).trans List.perm_middle
    · rw [if_neg z] at i2
      simp only [z, decide_false, Bool.false_eq_true, if_false]
      exact List.Perm.append_left _ i2
def leP (p q : Int × Int) : Bool := decide (p.1 < q.1) || (decide (p.1 = q.1) && decide (p.2 ≤ q.2))
theorem best_sort {c : Int → Int} {ns : List Int} (ha : ns.Pairwise (· < ·)) : ((ns.filter fun n => decide (0 < c n)).map fun n => (-c n, n)).mergeSort leP = (bestF c ns).map fun n => (-c n, n) := by
  obtain ⟨b1, b2⟩ := best_fold (c := c) ns [] ha List.Pairwise.nil (by simp)
  have h2 := List.mergeSort_perm ((ns.filter fun n => decide (0 < c n)).map fun n => (-c n, n)) leP
  have s2 : (((ns.filter fun n => decide (0 < c n)).map fun n => (-c n, n)).mergeSort leP).Pairwise (fun a b => leP a b = true) := List.pairwise_mergeSort (fun a b d h1 h2 => by simp [leP] at *; omega) (fun a b => by simp [leP]; omega) _
  refine (h2.trans ?_).eq_of_pairwise (le := fun a b => leP a b = true) (fun a b _ _ h1 h2 => ?_) s2 ?_
  · rw [List.append_nil] at b2
    exact (b2.map _).symm
  · simp [leP] at h1 h2
    exact Prod.ext (by omega) (by omega)
  · refine List.pairwise_map.mpr (b1.imp fun {m n} h => ?_)
    simp only [leP, Bool.or_eq_true, decide_eq_true_eq, Bool.and_eq_true]
    rcases h with h | h
    · left; omega
    · right; omega
end K67

set_option Elab.async false
set_option linter.all false
set_option maxRecDepth 100000
set_option maxHeartbeats 4000000
namespace K67
open MP
def aft (last : Option Int) (n : Int) : Bool := match last with
  | none => true
  | some l => decide (l < n)
def nextL (ws : List Int) (last : Option Int) : Option Int := match ws.filter (aft last) with
  | a :: _ => some a
  | [] => ws.head?
theorem law_next (fu k : Nat) (ws : List Int) (last : Option Int) (h : MH) (hl : ws.length ≤ 1000) : callM X fu (k + 1) 8 [.lst (di ws), oi last] h = .ok (oi (nextL ws last)) h := by
  rw [call_eq (c := c8) rfl rfl]
  show endR (execB (X.sm (callM X fu k)) fu b8 [.val (.lst (di ws)), .val (oi last), .un, .un] h) = _
  have hv : ev (X.sm (callM X fu k)) (.comp (.var 2) (.name 2) (.val (.var 0)) (.yes (.orl (.cons (.isN (.var 1)) (.cons (.cmp .gt (.var 2) (.var 1)) .nil)))) [2]) false [.val (.lst (di ws)), .val (oi last), .un, .un] h = .ok (.lst (di (ws.filter (aft last)))) h := by
    refine ev_filter (aft last) (by simp [evI, ev, Out.bind, ofO, Sl.get, view, D.seq]) (by omega) fun a _ => ?_
    cases last with
    | none => simp [bodyC, asg, wipeE, evc, ev, evOr, Out.bind, ofO, Sl.get, view, oi, D.isN, aft]
    | some l =>
      by_cases z : l < a
      · simp [bodyC, asg, wipeE, evc, ev, evOr, Out.bind, ofO, Sl.get, view, oi, D.isN, cmpD, z, aft]
      · simp [bodyC, asg, wipeE, evc, ev, evOr, Out.bind, ofO, Sl.get, view, oi, D.isN, cmpD, z, aft]
  unfold nextL
  simp only [b8, execB, exec, hv, bindS]
  generalize ws.filter (aft last) = bs
  cases bs with
  | cons a r =>
    simp [ev, evs, Out.bind, ofO, Sl.get, view, biD, D.seq, cmpD, idxD, at0, execB, exec, bindS, varK, endR, oi]
    skip
  | nil =>
    cases ws with
    | nil => simp [ev, evs, Out.bind, ofO, Sl.get, view, biD, D.seq, cmpD, idxD, at0, execB, exec, bindS, varK, endR, oi]
    | cons a r =>
      simp [ev, evs, Out.bind, ofO, Sl.get, view, biD, D.seq, cmpD, idxD, at0, execB, exec, bindS, varK, endR, oi]
      skip
theorem ne_nil (ns : List Int) : cmpD .ne (.lst (di ns)) (.lst []) = some (!decide (ns = [])) := ne_ll ns []
theorem ne_nn : cmpD .ne (.lst []) (.lst []) = some false := ne_ll [] []
theorem next_of (fu k : Nat) (ws : List Int) (last : Option Int) (h : MH) (hl : ws.length ≤ 1000) (ha : ws.Pairwise (· < ·)) : callM X fu (k + 1) 0 [.lst (di ws), oi last] h = .ok (oi (nextL ws last)) h := by
  rw [call_eq (c := c0) rfl rfl]
  show endR (execB (X.sm (callM X fu k)) fu b0 [.val (.lst (di ws)), .val (oi last), .un, .un] h) = _
  have hv : ev (X.sm (callM X fu k)) (.comp (.var 2) (.name 2) (.val (.var 0)) (.yes (.orl (.cons (.isN (.var 1)) (.cons (.cmp .gt (.var 2) (.var 1)) .nil)))) [2]) false [.val (.lst (di ws)), .val (oi last), .un, .un] h = .ok (.lst (di (ws.filter (aft last)))) h := by
    refine ev_filter (aft last) (by simp [evI, ev, Out.bind, ofO, Sl.get, view, D.seq]) (by omega) fun a _ => ?_
    cases last with
    | none => simp [bodyC, asg, wipeE, evc, ev, evOr, Out.bind, ofO, Sl.get, view, oi, D.isN, aft]
    | some l =>
      by_cases z : l < a
      · simp [bodyC, asg, wipeE, evc, ev, evOr, Out.bind, ofO, Sl.get, view, oi, D.isN, cmpD, z, aft]
      · simp [bodyC, asg, wipeE, evc, ev, evOr, Out.bind, ofO, Sl.get, view, oi, D.isN, cmpD, z, aft]
  have hb := ha.filter (aft last)
  unfold nextL
  simp only [b0, execB, exec, hv, bindS]
  revert hb
  generalize ws.filter (aft last) = bs
  intro hb
  cases bs with
  | cons a r =>
    have m := min_asc hb
    simp [-List.map_cons, ev, evs, Out.bind, ofO, Sl.get, view_false, view_lst, ne_nil, ne_nn, m, execB, exec, bindS, varK, endR, oi]
  | nil =>
    cases ws with
    | nil => simp [-List.map_cons, ev, evs, Out.bind, ofO, Sl.get, view_false, view_lst, ne_nil, ne_nn, execB, exec, bindS, varK, endR, oi]
    | cons a r =>
      have m := min_asc ha
      simp [-List.map_cons, ev, evs, Out.bind, ofO, Sl.get, view_false, view_lst, ne_nil, ne_nn, m, execB, exec, bindS, varK, endR, oi]
theorem law_cell (fu k : Nat) (ns : List Int) (j : Nat) (h : MH) : callM X fu (k + 1) 6 [.rol (di ns), .int j] h = .ok (.int (ns.getD j 0)) h := by
  rw [call_eq (c := c6) rfl rfl]
  show endR (execB (X.sm (callM X fu k)) fu b6 [.val (.rol (di ns)), .val (.int j)] h) = _
  simp only [b6]
  by_cases z : j < ns.length
  · have hx : L2.atI (di ns) (j : Int) = some (.int (ns.getD j 0)) := by
      unfold L2.atI
      rw [ixn (by simpa using z)]
      simp [List.getD_eq_getElem?_getD, z]
    simp [-List.map_cons, ev, evs, Out.bind, ofO, Sl.get, view, biD, D.seq, cmpD, idxD, hx, execB, exec, bindS, varK, endR, z]
  · have e : ns.getD j 0 = 0 := by
      rw [List.getD_eq_getElem?_getD, List.getElem?_eq_none (by omega)]
      rfl
    simp [-List.map_cons, ev, evs, Out.bind, ofO, Sl.get, view, biD, D.seq, cmpD, idxD, execB, exec, bindS, varK, endR, z, e]
def richL (cell : Int) (k : Int) : Int := if 1000000000000000000 ≤ cell then cell else (cell * 48271 + k * 69621 + 11).fmod 2147483647 * 2147483629 + ((cell * 48271 + k * 69621 + 11).fmod 2147483647 * 16807 + cell).fmod 2147483629
theorem law_rich (fu k : Nat) (cell j : Int) (h : MH) : callM X fu (k + 1) 7 [.int cell, .int j] h = .ok (.int (richL cell j)) h := by
  rw [call_eq (c := c7) rfl rfl]
  show endR (execB (X.sm (callM X fu k)) fu b7 [.val (.int cell), .val (.int j), .un] h) = _
  simp only [b7]
  unfold richL
  by_cases z : 1000000000000000000 ≤ cell
  · simp [ev, evs, Out.bind, ofO, Sl.get, view, biD, binD, cmpD, execB, exec, bindS, varK, endR, z]
  · simp [ev, evs, Out.bind, ofO, Sl.get, view, biD, binD, cmpD, execB, exec, bindS, varK, endR, z]
/-! ### the law's best -/
theorem tw_get {p : Int → Bool} : ∀ (F : List Int) (i : Nat), i < (F.takeWhile p).length → ∃ x, F[i]? = some x ∧ p x = true
  | [], i, h => by simp at h
  | a :: r, i, h => by
    rw [List.takeWhile_cons] at h
    split at h
    · rename_i z
      cases i with
      | zero => exact ⟨a, rfl, z⟩
      | succ i => exact tw_get r i (by simpa using h)
    · simp at h
theorem tw_end {p : Int → Bool} : ∀ (F : List Int) {x : Int}, F[(F.takeWhile p).length]? = some x → p x = false
  | [], x, h => by simp at h
  | a :: r, x, h => by
    rw [List.takeWhile_cons] at h
    split at h
    · exact tw_end r (by simpa using h)
    · rename_i z
      simp at h
      subst h
      simpa using z
def wC : E := .andl (.cons (.cmp .lt (.var 5) (.bi .len (.cons (.var 2) .nil))) (.cons (.cmp .ge (.bm .get2 (.var 0) (.cons (.idx (.var 2) (.var 5)) (.cons (.lit (.int 0)) .nil))) (.var 4)) .nil))
def wB : Sb := .cons (.set 5 (.bin .add (.var 5) (.lit (.int 1))) .val) .nil
def wE (G : List (Int × Int)) (ns F : List Int) (n : Int) (a : Nat) : MEnv := [.val (.dic (dkv G)), .val (.lst (di ns)), .val (.lst (di F)), .val (.int n), .val (.int (gv G n)), .val (.int a)]
theorem wC_ev (S : Sm) (G : List (Int × Int)) (ns F : List Int) (n : Int) (a : Nat) (h : MH) : ev S wC true (wE G ns F n a) h = .ok (.bl (match F[a]? with | some x => decide (gv G n ≤ gv G x) | none => false)) h := by
  unfold wC wE
  cases e : F[a]? with
  | none =>
    have hl : ¬ ((a : Int) < (F.length : Int)) := by
      have := List.getElem?_eq_none_iff.mp e
      omega
    simp [-List.map_cons, ev, evs, evAnd, Out.bind, ofO, Sl.get, view, biD, D.seq, cmpD, hl]
  | some x =>
    have hl' := (List.getElem?_eq_some_iff.mp e).1
    have hl : ((a : Int) < (F.length : Int)) := by omega
    have hx : L2.atI (di F) (a : Int) = some (.int x) := by
      unfold L2.atI
      rw [ixn (by simpa using hl')]
      simp [e]
    have hk : (D.int x).key = some (.inl (.inl x)) := rfl
    simp [-List.map_cons, ev, evs, evAnd, Out.bind, ofO, Sl.get, view_false, view_int, view, biD, D.seq, cmpD, idxD, hx, hl', hk, KK.flat, kinds_dkv, get_gv]
theorem while_best (S : Sm) (fu : Nat) (G : List (Int × Int)) (ns F : List Int) (n : Int) (h : MH) : ∀ (m a fl : Nat), (F.takeWhile (fun x => decide (gv G n ≤ gv G x))).length = a + m → m < fl →
    loopW (fun e h1 => ev S wC true e h1) (fun e h1 => execB S fu wB e h1) fl (wE G ns F n a) h = .nx (wE G ns F n (a + m)) h
  | 0, a, fl + 1, e, _ => by
    unfold loopW
    rw [wC_ev]
    have : (match F[a]? with | some x => decide (gv G n ≤ gv G x) | none => false) = false := by
      cases q : F[a]? with
      | none => rfl
      | some x =>
        have := tw_end F (x := x) (p := fun x => decide (gv G n ≤ gv G x)) (by rw [e]; exact q)
        exact this
    rw [this]
    rfl
  | m + 1, a, fl + 1, e, hf => by
    unfold loopW
    rw [wC_ev]
    obtain ⟨x, q1, q2⟩ := tw_get F a (p := fun x => decide (gv G n ≤ gv G x)) (by omega)
    rw [q1]
    have q2 : decide (gv G n ≤ gv G x) = true := q2
    dsimp only
    rw [q2]
    have st : execB S fu wB (wE G ns F n a) h = .nx (wE G ns F n (a + 1)) h := by
      unfold wB wE
      simp [execB, exec, bindS, ev, Out.bind, ofO, Sl.get, view, binD]
    simp only [bindS, st]
    have := while_best S fu G ns F n h m (a + 1) fl (by omega) (by omega)
    rw [show a + 1 + m = a + (m + 1) by omega] at this
    exact this
def inB : Sb := .cons (.set 4 (.bm .get2 (.var 0) (.cons (.var 3) (.cons (.lit (.int 0)) .nil))) .val) (.cons (.set 5 (.lit (.int 0)) .val) (.cons (.whl wC wB) (.cons (.iff (.cmp .gt (.var 4) (.lit (.int 0))) (.cons (.set 2 (.bin .add (.bin .add (.slc (.var 2) .no (.yes (.var 5))) (.lst (.cons (.var 3) .nil))) (.slc (.var 2) (.yes (.var 5)) .no)) .val) .nil) .nil) .nil)))
theorem cut_lo {F : List D} {a : Nat} (h : a ≤ F.length) : cutD F none (some (a : Int)) = F.take a := by
  unfold cutD
  rw [HT.sIx_none, HT.sIx_nat]
  simp [Nat.min_eq_left h]
theorem cut_to {F : List D} (a : Nat) : cutD F none (some (a : Int)) = F.take a := by
  by_cases z : a ≤ F.length
  · exact cut_lo z
  · unfold cutD
    rw [HT.sIx_none, HT.sIx_nat, Nat.min_eq_right (by omega), List.take_of_length_le (by simp), List.take_of_length_le (by omega)]
    rfl
theorem cut_hi {F : List D} {a : Nat} (h : a ≤ F.length) : cutD F (some (a : Int)) none = F.drop a := by
  unfold cutD
  rw [HT.sIx_none, HT.sIx_nat, Nat.min_eq_left h]
  exact List.take_of_length_le (by simp)
theorem tw_take {p : Int → Bool} : ∀ F : List Int, F.take (F.takeWhile p).length = F.takeWhile p ∧ F.drop (F.takeWhile p).length = F.dropWhile p
  | [] => ⟨rfl, rfl⟩
  | a :: r => by
    obtain ⟨h1, h2⟩ := tw_take (p := p) r
    rw [List.takeWhile_cons, List.dropWhile_cons]
    cases e : p a
    · simp [e]
    · simp [e, h1, h2]
theorem body_best (S : Sm) (fu : Nat) (G : List (Int × Int)) (ns F : List Int) (n : Int) (s4 s5 : Sl) (h : MH) (hf : F.length < fu) (hl : F.length ≤ 1000) :
    ∃ s4' s5', execB S fu inB [.val (.dic (dkv G)), .val (.lst (di ns)), .val (.lst (di F)), .val (.int n), s4, s5] h = .nx [.val (.dic (dkv G)), .val (.lst (di ns)), .val (.lst (di (insL (gv G) F n))), .val (.int n), s4', s5'] h := by
  have hk : (D.int n).key = some (.inl (.inl n)) := rfl
  have tl : (F.takeWhile (fun x => decide (gv G n ≤ gv G x))).length ≤ F.length := (List.takeWhile_sublist _).length_le
  have wl := while_best S fu G ns F n h (F.takeWhile (fun x => decide (gv G n ≤ gv G x))).length 0 fu (by omega) (by omega)
  obtain ⟨e1, e2⟩ := tw_take (p := fun x => decide (gv G n ≤ gv G x)) F
  unfold insL
  rw [← e1, ← e2]
  generalize (F.takeWhile (fun x => decide (gv G n ≤ gv G x))).length = a at *
  unfold wE at wl
  simp only [Nat.zero_add] at wl
  have z0 : ((0 : Nat) : Int) = 0 := rfl
  rw [z0] at wl
  unfold inB
  refine ⟨.val (.int (gv G n)), .val (.int a), ?_⟩
  have c1 : cutD (di F) none (some (a : Int)) = di (F.take a) := by rw [cut_lo (by simpa using tl)]; simp
  have c2 : cutD (di F) (some (a : Int)) none = di (F.drop a) := by rw [cut_hi (by simpa using tl)]; simp
  have l1 : lim (min a F.length + 1) = true := decide_eq_true (by omega)
  have l2 : lim (min a F.length + 1 + (F.length - a)) = true := decide_eq_true (by omega)
  by_cases z : 0 < gv G n
  · simp [-List.map_cons, execB, exec, bindS, ev, evs, evo, Out.bind, ofO, Sl.get, view_false, view_int, view, hk, KK.flat, kinds_dkv, get_gv, wl, cmpD, z, slcD, c1, c2, binD, l1, l2]
    simp
  · simp [-List.map_cons, execB, exec, bindS, ev, evs, evo, Out.bind, ofO, Sl.get, view_false, view_int, view, hk, KK.flat, kinds_dkv, get_gv, wl, cmpD, z]
theorem ins_len (c : Int → Int) (F : List Int) (n : Int) : (insL c F n).length ≤ F.length + 1 := by
  unfold insL
  split
  · have e := congrArg List.length (List.takeWhile_append_dropWhile (p := fun m => decide (c n ≤ c m)) (l := F))
    simp only [List.length_append, List.length_cons] at e ⊢
    omega
  · omega
theorem fold_len (c : Int → Int) : ∀ (ns F : List Int), (ns.foldl (insL c) F).length ≤ F.length + ns.length
  | [], F => by simp
  | n :: r, F => by
    have h1 := fold_len c r (insL c F n)
    have h2 := ins_len c F n
    simp only [List.foldl_cons, List.length_cons]
    omega
def forS : MP.S := .for (.name 3) (.val (.var 1)) inB
theorem b9_eq : b9 = .cons (.set 2 (.lst .nil) .val) (.cons forS (.cons (.ret (.slc (.var 2) .no (.yes (.lit (.int 2))))) .nil)) := rfl
theorem law_best (fu k : Nat) (G : List (Int × Int)) (ns : List Int) (h : MH) (hf : ns.length < fu) (hl : ns.length ≤ 900) : callM X fu (k + 1) 9 [.dic (dkv G), .lst (di ns)] h = .ok (.lst (di ((bestF (gv G) ns).take 2))) h := by
  rw [call_eq (c := c9) rfl rfl]
  show endR (execB (X.sm (callM X fu k)) fu b9 [.val (.dic (dkv G)), .val (.lst (di ns)), .un, .un, .un, .un] h) = _
  have lp : ∃ s3 s4 s5, loopF (fun d e h2 => match asg (.name 3) d e with | some e1 => execB (X.sm (callM X fu k)) fu inB e1 h2 | none => .bad) (di ns) [.val (.dic (dkv G)), .val (.lst (di ns)), .val (.lst []), .un, .un, .un] h = .nx [.val (.dic (dkv G)), .val (.lst (di ns)), .val (.lst (di (bestF (gv G) ns))), s3, s4, s5] h := by
    obtain ⟨e1, h1, q1, q2⟩ := loopF_ok (f := fun d e h2 => match asg (.name 3) d e with | some e1 => execB (X.sm (callM X fu k)) fu inB e1 h2 | none => .bad) (fun i e h' => h' = h ∧ ∃ s3 s4 s5, e = [.val (.dic (dkv G)), .val (.lst (di ns)), .val (.lst (di ((ns.take i).foldl (insL (gv G)) []))), s3, s4, s5]) (di ns) 0
      [.val (.dic (dkv G)), .val (.lst (di ns)), .val (.lst []), .un, .un, .un] h ⟨rfl, _, _, _, rfl⟩ (fun j d e h' hd p => by
        obtain ⟨rfl, s3, s4, s5, rfl⟩ := p
        rw [Nat.zero_add] at *
        obtain ⟨n, hn, rfl⟩ : ∃ n, ns[j]? = some n ∧ d = .int n := by
          rw [List.getElem?_map] at hd
          cases e : ns[j]? with
          | none => rw [e] at hd; cases hd
          | some n => rw [e] at hd; exact ⟨n, rfl, (Option.some.inj hd).symm⟩
        have hj := (List.getElem?_eq_some_iff.mp hn).1
        have fl := fold_len (gv G) (ns.take j) []
        simp only [List.length_nil, List.length_take] at fl
        obtain ⟨s4', s5', q⟩ := body_best (X.sm (callM X fu k)) fu G ns ((ns.take j).foldl (insL (gv G)) []) n s4 s5 h' (by omega) (by omega)
        refine ⟨_, _, .inl ?_, rfl, .val (.int n), s4', s5', rfl⟩
        have e1 : (ns.take (j + 1)).foldl (insL (gv G)) [] = insL (gv G) ((ns.take j).foldl (insL (gv G)) []) n := by
          rw [List.take_succ, hn]
          simp
        rw [e1]
        exact q)
    obtain ⟨rfl, s3, s4, s5, rfl⟩ := q2
    refine ⟨s3, s4, s5, q1.trans ?_⟩
    simp only [Nat.zero_add, List.length_map, List.take_length]
    rfl
  obtain ⟨s3, s4, s5, lp⟩ := lp
  have lf : MP.exec (X.sm (callM X fu k)) fu forS [.val (.dic (dkv G)), .val (.lst (di ns)), .val (.lst []), .un, .un, .un] h = .nx [.val (.dic (dkv G)), .val (.lst (di ns)), .val (.lst (di (bestF (gv G) ns))), s3, s4, s5] h := by
    unfold forS
    rw [exec, evI, ev]
    exact lp
  rw [b9_eq]
  have c1 : cutD (di (bestF (gv G) ns)) none (some 2) = di ((bestF (gv G) ns).take 2) := by
    rw [show (2 : Int) = ((2 : Nat) : Int) from rfl, cut_to]
    simp
  simp [-List.map_cons, execB, exec, bindS, ev, evs, evo, evI, Out.bind, ofO, Sl.get, view, D.seq, lf, slcD, c1, varK, endR]
/-! ### the program's best -/
theorem con1 (call : Nat → List D → MH → Out D) : (X.sm call).con 1 = .int 2 := rfl
theorem con0 (call : Nat → List D → MH → Out D) : (X.sm call).con 0 = .int 5 := rfl
def sndD : D → Option D
  | .tup [_, y] => some y
  | _ => none
theorem fm_snd : ∀ ps : List (Int × Int), (ps.map dp).filterMap sndD = di (ps.map (·.2))
  | [] => rfl
  | p :: r => by
    show (dp p :: r.map dp).filterMap sndD = _
    rw [List.filterMap_cons, fm_snd r]
    rfl
theorem fm_pair (c : Int → Int) : ∀ ns : List Int, (ns.filterMap fun a => if 0 < c a then some (dp (-c a, a)) else none) = ((ns.filter fun n => decide (0 < c n)).map fun n => (-c n, n)).map dp
  | [] => rfl
  | a :: r => by
    rw [List.filterMap_cons, List.filter_cons]
    by_cases z : 0 < c a
    · simp [z, fm_pair c r]
    · simp [z, fm_pair c r]
def rowE : E := .comp (.tup (.cons (.neg (.idx (.var 0) (.var 2))) (.cons (.var 2) .nil))) (.name 2) (.val (.var 1)) (.yes (.cmp .gt (.bm .get2 (.var 0) (.cons (.var 2) (.cons (.lit (.int 0)) .nil))) (.lit (.int 0)))) [2]
def outE : E := .comp (.var 2) (.tup (.cons (.name 4) (.cons (.name 2) .nil))) (.val (.slc (.var 3) .no (.yes (.glb 1)))) .no [4, 2]
theorem b1_eq : b1 = .cons (.set 3 (.bi .sorted (.cons rowE .nil)) .val) (.cons (.ret outE) .nil) := rfl
theorem best_ok (fu k : Nat) (G : List (Int × Int)) (ns : List Int) (h : MH) (hl : ns.length ≤ 900) (ha : ns.Pairwise (· < ·)) : callM X fu (k + 1) 1 [.dic (dkv G), .lst (di ns)] h = .ok (.lst (di ((bestF (gv G) ns).take 2))) h := by
  rw [call_eq (c := c1) rfl rfl]
  show endR (execB (X.sm (callM X fu k)) fu b1 [.val (.dic (dkv G)), .val (.lst (di ns)), .un, .un, .un] h) = _
  have hv : ∀ b, ev (X.sm (callM X fu k)) rowE b [.val (.dic (dkv G)), .val (.lst (di ns)), .un, .un, .un] h = .ok (.lst (((ns.filter fun n => decide (0 < gv G n)).map fun n => (-gv G n, n)).map dp)) h := fun b => by
    unfold rowE
    rw [← fm_pair]
    refine ev_compI (ns := ns) (fun a => if 0 < gv G a then some (dp (-gv G a, a)) else none) (by simp [evI, ev, Out.bind, ofO, Sl.get, view, D.seq]) (by omega) fun a _ => ?_
    have hk : (D.int a).key = some (.inl (.inl a)) := rfl
    by_cases z : 0 < gv G a
    · have hg : kget (dkv G) (.inl (.inl a)) = some (.int (gv G a)) := by
        rw [kget_dkv]
        unfold gv at z ⊢
        cases e : G.lookup a with
        | none => rw [e] at z; simp at z
        | some v => rfl
      simp [-List.map_cons, bodyC, asg, wipeE, evc, ev, evs, Out.bind, ofO, Sl.get, view_int, view_false, view, cmpD, idxD, hk, KK.flat, kinds_dkv, get_gv, hg, z]
    · simp [-List.map_cons, bodyC, asg, wipeE, evc, ev, evs, Out.bind, ofO, Sl.get, view_int, view_false, view, cmpD, idxD, hk, KK.flat, kinds_dkv, get_gv, z]
  have hs := sort_pair ((ns.filter fun n => decide (0 < gv G n)).map fun n => (-gv G n, n))
  have hb := best_sort (c := gv G) ha
  have hs : sortD (((ns.filter fun n => decide (0 < gv G n)).map fun n => (-gv G n, n)).map dp) = some (((bestF (gv G) ns).map fun n => (-gv G n, n)).map dp) := by
    rw [← hb]
    exact hs
  have ho : ∀ b, ev (X.sm (callM X fu k)) outE b [.val (.dic (dkv G)), .val (.lst (di ns)), .un, .val (.lst (((bestF (gv G) ns).map fun n => (-gv G n, n)).map dp)), .un] h = .ok (.lst (di ((bestF (gv G) ns).take 2))) h := fun b => by
    unfold outE
    have fl := fold_len (gv G) ns []
    have c1 : cutD (((bestF (gv G) ns).map fun n => (-gv G n, n)).map dp) none (some 2) = ((((bestF (gv G) ns).take 2).map fun n => (-gv G n, n)).map dp) := by
      rw [show (2 : Int) = ((2 : Nat) : Int) from rfl, cut_to]
      simp
    have ee : D.lst (di ((bestF (gv G) ns).take 2)) = .lst (((((bestF (gv G) ns).take 2).map fun n => (-gv G n, n)).map dp).filterMap sndD) := by
      rw [fm_snd]
      simp [Function.comp_def]
    rw [ee]
    refine ev_comp sndD (ds := (((bestF (gv G) ns).take 2).map fun n => (-gv G n, n)).map dp) (by simp [-List.map_cons, -List.map_map, evI, ev, evo, Out.bind, ofO, Sl.get, view, D.seq, con1, slcD, c1]) (by simp; omega) fun d hd => ?_
    · obtain ⟨q, _, rfl⟩ := List.mem_map.mp hd
      simp [bodyC, asg, asgL, wipeE, evc, ev, Out.bind, ofO, Sl.get, view, sndD]
  rw [b1_eq]
  simp [-List.map_cons, -List.map_map, execB, exec, bindS, ev, evs, Out.bind, ofO, Sl.get, view, hv, ho, biD, hs, show varK outE = none from rfl, endR]
end K67

set_option Elab.async false
set_option linter.all false
set_option maxRecDepth 100000
set_option maxHeartbeats 4000000
namespace K67
open MP
/-! ### the two states -/
structure TS where
  ho : Option Int
  la : Option Int
  le : Int
  rw : List Int
def tO (s : TS) : MObj := .ins 0 [.val (oi s.ho), .val (oi s.la), .val (.int s.le), .val (.lst (di s.rw))]
def dO (s : TS) : MObj := .dic [(.inl (.inr "holder"), oi s.ho), (.inl (.inr "last"), oi s.la), (.inl (.inr "left"), .int s.le), (.inl (.inr "rewards"), .lst (di s.rw))]
def leaveL (s : TS) (n : Int) : TS := ⟨if s.ho = some n then none else s.ho, s.la, if s.ho = some n then 0 else s.le, s.rw.filter fun x => !decide (x = n)⟩
def othE : E := .comp (.var 2) (.name 2) (.val (.fld 0 3 (.var 0))) (.yes (.cmp .ne (.var 2) (.var 1))) [2]
theorem b4_eq : b4 = .cons (.iff (.cmp .eq (.fld 0 0 (.var 0)) (.var 1)) (.cons (.setf 0 0 (.var 0) (.lit .non) .val) (.cons (.setf 0 2 (.var 0) (.lit (.int 0)) .val) .nil)) .nil) (.cons (.setf 0 3 (.var 0) othE .val) .nil) := rfl
theorem eq_oi (a : Option Int) (n : Int) : cmpD .eq (oi a) (.int n) = some (decide (a = some n)) := eq_oo a (some n)
theorem leave (fu k : Nat) (s : TS) (n : Int) (d : MObj) (hl : s.rw.length ≤ 900) : callM X fu (k + 1) 4 [.ref 0, .int n] [tO s, d] = .ok .non [tO (leaveL s n), d] := by
  rw [call_eq (c := c4) rfl rfl]
  show endR (execB (X.sm (callM X fu k)) fu b4 [.val (.ref 0), .val (.int n), .un] [tO s, d]) = _
  have hv : ∀ s' : TS, s'.rw.length ≤ 900 → ev (X.sm (callM X fu k)) othE false [.val (.ref 0), .val (.int n), .un] [tO s', d] = .ok (.lst (di (s'.rw.filter fun x => !decide (x = n)))) [tO s', d] := fun s' hl => by
    unfold othE
    refine ev_filter (fun x => !decide (x = n)) (by simp [evI, ev, Out.bind, ofO, Sl.get, view_false, view_lst, fldD, tO, D.seq]) (by omega) fun a _ => ?_
    by_cases z : a = n
    · simp [bodyC, asg, wipeE, evc, ev, Out.bind, ofO, Sl.get, view_int, view_false, ne_ii, z]
    · simp [bodyC, asg, wipeE, evc, ev, Out.bind, ofO, Sl.get, view_int, view_false, ne_ii, z]
  rw [b4_eq]
  by_cases z : s.ho = some n
  · have h2 := hv ⟨none, s.la, 0, s.rw⟩ hl
    simp only [tO, show oi none = D.non from rfl] at h2
    simp [-List.map_cons, execB, exec, bindS, ev, Out.bind, ofO, Sl.get, view_oi, view_false, view_int, fldD, tO, eq_oi, z, endR, leaveL, h2]
    rfl
  · have h2 := hv s hl
    simp only [tO] at h2
    simp [-List.map_cons, execB, exec, bindS, ev, Out.bind, ofO, Sl.get, view_oi, view_false, view_int, fldD, tO, eq_oi, z, endR, leaveL, h2]
end K67

set_option Elab.async false
set_option linter.all false
set_option maxRecDepth 100000
set_option maxHeartbeats 4000000
namespace K67
open MP
abbrev kv (a b c d : D) : List (KK × D) := [(.inl (.inr "holder"), a), (.inl (.inr "last"), b), (.inl (.inr "left"), c), (.inl (.inr "rewards"), d)]
variable (a b c d x : D)
theorem kg1 : kget (kv a b c d) (.inl (.inr "holder")) = some a := by rfl
theorem kg2 : kget (kv a b c d) (.inl (.inr "last")) = some b := by rfl
theorem kg3 : kget (kv a b c d) (.inl (.inr "left")) = some c := by rfl
theorem kg4 : kget (kv a b c d) (.inl (.inr "rewards")) = some d := by rfl
theorem kp1 : kput (kv a b c d) (.inl (.inr "holder")) x = kv x b c d := by rfl
theorem kp2 : kput (kv a b c d) (.inl (.inr "last")) x = kv a x c d := by rfl
theorem kp3 : kput (kv a b c d) (.inl (.inr "left")) x = kv a b x d := by rfl
theorem kp4 : kput (kv a b c d) (.inl (.inr "rewards")) x = kv a b c x := by rfl
theorem kk : kinds true (kv a b c d) = true := by rfl
theorem dO_eq (s : TS) : dO s = .dic (kv (oi s.ho) (oi s.la) (.int s.le) (.lst (di s.rw))) := rfl
theorem k1 : (D.str "holder").key = some (.inl (.inr "holder")) := rfl
theorem k2 : (D.str "last").key = some (.inl (.inr "last")) := rfl
theorem k3 : (D.str "left").key = some (.inl (.inr "left")) := rfl
theorem k4 : (D.str "rewards").key = some (.inl (.inr "rewards")) := rfl
theorem lim5 : lim ((kv a b c d).length + 1) = true := by rfl
def othE2 : E := .comp (.var 2) (.name 2) (.val (.idx (.var 0) (.lit (.str "rewards")))) (.yes (.cmp .ne (.var 2) (.var 1))) [2]
theorem b11_eq : b11 = .cons (.iff (.cmp .eq (.idx (.var 0) (.lit (.str "holder"))) (.var 1)) (.cons (.seti (.var 0) (.lit (.str "holder")) (.lit .non)) (.cons (.seti (.var 0) (.lit (.str "left")) (.lit (.int 0))) .nil)) .nil) (.cons (.seti (.var 0) (.lit (.str "rewards")) othE2) .nil) := rfl
theorem limF : lim 5 = true := rfl
theorem view1 (t : MObj) (kvs : List (KK × D)) : view [t, .dic kvs] true (.ref 1) = .dic kvs := rfl
theorem turn_leave (fu k : Nat) (t : MObj) (s : TS) (n : Int) (hl : s.rw.length ≤ 900) : callM X fu (k + 1) 11 [.ref 1, .int n] [t, dO s] = .ok .non [t, dO (leaveL s n)] := by
  rw [call_eq (c := c11) rfl rfl]
  show endR (execB (X.sm (callM X fu k)) fu b11 [.val (.ref 1), .val (.int n), .un] [t, dO s]) = _
  have hv : ∀ s' : TS, s'.rw.length ≤ 900 → ev (X.sm (callM X fu k)) othE2 false [.val (.ref 1), .val (.int n), .un] [t, dO s'] = .ok (.lst (di (s'.rw.filter fun x => !decide (x = n)))) [t, dO s'] := fun s' hl => by
    unfold othE2
    refine ev_filter (fun x => !decide (x = n)) (by simp [-List.map_cons, evI, ev, Out.bind, ofO, Sl.get, view, view_lst, dO_eq, idxD, k4, KK.flat, kk, kg4, D.seq]) (by omega) fun a _ => ?_
    by_cases z : a = n
    · simp [bodyC, asg, wipeE, evc, ev, Out.bind, ofO, Sl.get, view_int, view_false, ne_ii, z]
    · simp [bodyC, asg, wipeE, evc, ev, Out.bind, ofO, Sl.get, view_int, view_false, ne_ii, z]
  rw [b11_eq]
  by_cases z : s.ho = some n
  · have h2 := hv ⟨none, s.la, 0, s.rw⟩ hl
    simp only [dO_eq, show oi none = D.non from rfl] at h2
    simp [-List.map_cons, execB, exec, bindS, ev, evP, plc, getL, putL, setE, setH, Out.bind, ofO, Sl.get, view1, view_oi, view_false, view_int, dO_eq, idxD, k1, k3, k4, KK.flat, kk, kg1, kp1, kp3, kp4, lim5, limF, eq_oi, z, endR, leaveL, h2]
    rfl
  · have h2 := hv s hl
    simp only [dO_eq] at h2
    simp [-List.map_cons, execB, exec, bindS, ev, evP, plc, getL, putL, setE, setH, Out.bind, ofO, Sl.get, view1, view_oi, view_false, view_int, dO_eq, idxD, k1, k3, k4, KK.flat, kk, kg1, kp1, kp3, kp4, lim5, limF, eq_oi, z, endR, leaveL, h2]
end K67

set_option Elab.async false
set_option linter.all false
set_option maxRecDepth 100000
set_option maxHeartbeats 4000000
namespace K67
open MP
def srt (ns : List Int) : List Int := ns.mergeSort fun a b => decide (a ≤ b)
theorem srt_perm {a b : List Int} (h : a.Perm b) : srt a = srt b := by
  unfold srt
  exact sort_ints ((List.mergeSort_perm _ _).trans h) ((List.pairwise_mergeSort (fun a b c h1 h2 => by simp at *; omega) (fun a b => by simp; omega) _).imp fun h => by simpa using h)
def servL (s : TS) : List Int := srt (s.rw ++ s.ho.toList)
theorem bi_sorted (ns : List Int) : biD .sorted [.lst (di ns)] = some (.lst (di (srt ns))) := by
  show (sortD (di ns)).map D.lst = _
  rw [sort_int]
  rfl
theorem bi_list (ns : List D) : biD .list [.lst ns] = some (.lst ns) := rfl
theorem served (fu k : Nat) (s : TS) (d : MObj) (hl : s.rw.length ≤ 900) : callM X fu (k + 1) 5 [.ref 0] [tO s, d] = .ok (.lst (di (servL s))) [tO s, d] := by
  rw [call_eq (c := c5) rfl rfl]
  show endR (execB (X.sm (callM X fu k)) fu b5 [.val (.ref 0), .un] [tO s, d]) = _
  unfold b5 servL
  have l1 : lim (s.rw.length + 1) = true := decide_eq_true (by omega)
  cases e : s.ho with
  | none =>
    have e2 : (oi none).isN = true := rfl
    simp [-List.map_cons, execB, exec, bindS, ev, evs, evP, plc, getL, putL, setE, setH, Out.bind, ofO, Sl.get, view_oi, view_false, view_lst, view_int, fldD, tO, e, e2, endR, varK, exK, bi_list, bi_sorted]
  | some n =>
    have e2 : di s.rw ++ [oi (some n)] = di (s.rw ++ [n]) := by simp [oi]
    have e5 : (oi (some n)).isN = false := rfl
    simp [-List.map_cons, -List.map_append, execB, exec, bindS, ev, evs, evP, plc, getL, putL, setE, setH, Out.bind, ofO, Sl.get, view_oi, view_false, view_lst, view_int, fldD, tO, e, endR, varK, exK, okP, bi_list, bi_sorted, e5, l1, e2]
theorem law_served (fu k : Nat) (s : TS) (t : MObj) (hl : s.rw.length ≤ 900) : callM X fu (k + 1) 12 [.ref 1] [t, dO s] = .ok (.lst (di (servL s))) [t, dO s] := by
  rw [call_eq (c := c12) rfl rfl]
  show endR (execB (X.sm (callM X fu k)) fu b12 [.val (.ref 1), .un] [t, dO s]) = _
  unfold b12
  have l1 : lim (1 + s.rw.length) = true := decide_eq_true (by omega)
  have l0 : lim s.rw.length = true := decide_eq_true (by omega)
  cases e : s.ho with
  | none =>
    have e3 : servL s = srt s.rw := by unfold servL; rw [e]; simp
    have e2 : (oi none).isN = true := rfl
    simp [-List.map_cons, -List.map_append, execB, exec, bindS, ev, evs, Out.bind, ofO, Sl.get, view1, view_oi, view_false, view_lst, view_int, dO_eq, idxD, k1, k4, KK.flat, kk, kg1, kg4, e, e2, endR, varK, bi_sorted, binD, l0, e3]
  | some n =>
    have e3 : servL s = srt (n :: s.rw) := by unfold servL; rw [e]; exact srt_perm List.perm_append_comm
    have e2 : (oi (some n)).isN = false := rfl
    have e4 : D.lst (oi (some n) :: di s.rw) = .lst (di (n :: s.rw)) := rfl
    simp [-List.map_cons, -List.map_append, execB, exec, bindS, ev, evs, Out.bind, ofO, Sl.get, view1, view_oi, view_false, view_lst, view_int, dO_eq, idxD, k1, k4, KK.flat, kk, kg1, kg4, e, e2, endR, varK, bi_sorted, binD, l1, e3, e4]
end K67

set_option Elab.async false
set_option linter.all false
set_option maxRecDepth 100000
set_option maxHeartbeats 4000000
namespace K67
open MP
/-- one step: the state, what is told -/
def goes (s : TS) (ws : List Int) : Bool := (match s.ho with | some a => decide (a ∈ ws) | none => false) && decide (0 < s.le - 1)
def stepL (s : TS) (ws : List Int) (c : Int → Int) : TS × Option Int :=
  let le := if 0 < s.le then s.le - 1 else s.le
  if (match s.ho with | some a => decide (a ∈ ws) | none => false) = true ∧ 0 < le then (⟨s.ho, s.la, le, s.rw⟩, none)
  else
    let ho := nextL ws s.la
    let rw := (bestF c (ws.filter fun n => !decide (some n = ho))).take 2
    match ho with
    | none => (⟨none, s.la, 0, rw⟩, none)
    | some a => (⟨some a, some a, 5, rw⟩, some a)
def dec (s : TS) : TS := ⟨s.ho, s.la, if 0 < s.le then s.le - 1 else s.le, s.rw⟩
theorem ne_io (a : Int) (b : Option Int) : cmpD .ne (.int a) (oi b) = some (!decide (some a = b)) := ne_oo (some a) b
def flE (e : E) : E := .comp (.var 3) (.name 3) (.val (.var 1)) (.yes (.cmp .ne (.var 3) e)) [3]
theorem b3_eq : b3 = .cons (.iff (.cmp .gt (.fld 0 2 (.var 0)) (.lit (.int 0))) (.cons (.augf 0 2 (.var 0) .sub (.lit (.int 1))) .nil) .nil) (.cons (.iff (.andl (.cons (.ntN (.fld 0 0 (.var 0))) (.cons (.cmp .isin (.fld 0 0 (.var 0)) (.var 1)) (.cons (.cmp .gt (.fld 0 2 (.var 0)) (.lit (.int 0))) .nil)))) (.cons (.ret (.lit .non)) .nil) .nil) (.cons (.setf 0 0 (.var 0) (.call 0 (.cons (.var 1) (.cons (.fld 0 1 (.var 0)) .nil))) .val) (.cons (.setf 0 3 (.var 0) (.call 1 (.cons (.var 2) (.cons (flE (.fld 0 0 (.var 0))) .nil))) .val) (.cons (.iff (.isN (.fld 0 0 (.var 0))) (.cons (.setf 0 2 (.var 0) (.lit (.int 0)) .val) (.cons (.ret (.lit .non)) .nil)) .nil) (.cons (.setf 0 1 (.var 0) (.fld 0 0 (.var 0)) .val) (.cons (.setf 0 2 (.var 0) (.glb 0) .val) (.cons (.ret (.fld 0 0 (.var 0))) .nil))))))) := rfl
abbrev sE (ws : List Int) (G : List (Int × Int)) : MEnv := [.val (.ref 0), .val (.lst (di ws)), .val (.dic (dkv G)), .un]
def stA : MP.S := .iff (.cmp .gt (.fld 0 2 (.var 0)) (.lit (.int 0))) (.cons (.augf 0 2 (.var 0) .sub (.lit (.int 1))) .nil) .nil
theorem stA_ok (S : Sm) (fu : Nat) (s : TS) (ws : List Int) (G : List (Int × Int)) (d : MObj) : MP.exec S fu stA (sE ws G) [tO s, d] = .nx (sE ws G) [tO (dec s), d] := by
  unfold stA
  by_cases z : 0 < s.le
  · simp [-List.map_cons, execB, exec, bindS, ev, Out.bind, ofO, Sl.get, view_false, view_int, fldD, tO, cmpD, z, in2D, binD, dec]
  · simp [-List.map_cons, execB, exec, bindS, ev, Out.bind, ofO, Sl.get, view_false, view_int, fldD, tO, cmpD, z, dec]
theorem gt_ii (i j : Int) : cmpD .gt (.int i) (.int j) = some (decide (j < i)) := rfl
def cB : E := .andl (.cons (.ntN (.fld 0 0 (.var 0))) (.cons (.cmp .isin (.fld 0 0 (.var 0)) (.var 1)) (.cons (.cmp .gt (.fld 0 2 (.var 0)) (.lit (.int 0))) .nil)))
theorem cB_ok (S : Sm) (s : TS) (ws : List Int) (G : List (Int × Int)) (d : MObj) : ev S cB true (sE ws G) [tO s, d] = .ok (.bl ((match s.ho with | some a => decide (a ∈ ws) | none => false) && decide (0 < s.le))) [tO s, d] := by
  unfold cB
  cases e : s.ho with
  | none =>
    have e2 : (oi none).isN = true := rfl
    simp [-List.map_cons, ev, evAnd, Out.bind, ofO, Sl.get, view_false, view_int, view_oi, fldD, tO, e, e2]
  | some a =>
    have e2 : (oi (some a)).isN = false := rfl
    have e3 := in_oi (some a) ws
    by_cases z : a ∈ ws
    · simp [-List.map_cons, ev, evAnd, Out.bind, ofO, Sl.get, view_false, view_int, view_lst, view_oi, fldD, tO, e, e2, e3, z, gt_ii]
    · simp [-List.map_cons, ev, evAnd, Out.bind, ofO, Sl.get, view_false, view_int, view_lst, view_oi, fldD, tO, e, e2, e3, z]
def stC : MP.S := .setf 0 0 (.var 0) (.call 0 (.cons (.var 1) (.cons (.fld 0 1 (.var 0)) .nil))) .val
theorem stC_ok (fu k : Nat) (s : TS) (ws : List Int) (G : List (Int × Int)) (d : MObj) (hl : ws.length ≤ 900) (ha : ws.Pairwise (· < ·)) : MP.exec (X.sm (callM X fu (k + 1))) fu stC (sE ws G) [tO s, d] = .nx (sE ws G) [tO ⟨nextL ws s.la, s.la, s.le, s.rw⟩, d] := by
  unfold stC
  have h0 := next_of fu k ws s.la [tO s, d] (by omega) ha
  have e1 : (X.sm (callM X fu (k + 1))).call 0 = callM X fu (k + 1) 0 := rfl
  have e2 : (X.sm (callM X fu (k + 1))).dv 0 = fun _ => [] := rfl
  simp only [tO] at h0
  simp [-List.map_cons, exec, bindS, ev, evs, Out.bind, ofO, Sl.get, view_false, view_int, view_lst, view_oi, fldD, tO, e1, e2, h0]
def fE : E := flE (.fld 0 0 (.var 0))
theorem fE_ok (S : Sm) (s : TS) (ws : List Int) (G : List (Int × Int)) (d : MObj) (hl : ws.length ≤ 900) : ev S fE false (sE ws G) [tO s, d] = .ok (.lst (di (ws.filter fun n => !decide (some n = s.ho)))) [tO s, d] := by
  unfold fE flE
  refine ev_filter (fun n => !decide (some n = s.ho)) (by simp [evI, ev, Out.bind, ofO, Sl.get, view_lst, D.seq]) (by omega) fun a _ => ?_
  by_cases z : some a = s.ho
  · have e3 := ne_io a s.ho
    simp [bodyC, asg, wipeE, evc, ev, Out.bind, ofO, Sl.get, view_int, view_false, view_oi, fldD, tO, e3, z]
  · have e3 := ne_io a s.ho
    simp [bodyC, asg, wipeE, evc, ev, Out.bind, ofO, Sl.get, view_int, view_false, view_oi, fldD, tO, e3, z]
def stD : MP.S := .setf 0 3 (.var 0) (.call 1 (.cons (.var 2) (.cons fE .nil))) .val
theorem stD_ok (fu k : Nat) (s : TS) (ws : List Int) (G : List (Int × Int)) (d : MObj) (hl : ws.length ≤ 900) (ha : ws.Pairwise (· < ·)) : MP.exec (X.sm (callM X fu (k + 1))) fu stD (sE ws G) [tO s, d] = .nx (sE ws G) [tO ⟨s.ho, s.la, s.le, (bestF (gv G) (ws.filter fun n => !decide (some n = s.ho))).take 2⟩, d] := by
  unfold stD
  have hf := List.length_filter_le (fun n => !decide (some n = s.ho)) ws
  have h0 := best_ok fu k G (ws.filter fun n => !decide (some n = s.ho)) [tO s, d] (by omega) (ha.filter _)
  have h1 := fE_ok (X.sm (callM X fu (k + 1))) s ws G d hl
  have e1 : (X.sm (callM X fu (k + 1))).call 1 = callM X fu (k + 1) 1 := rfl
  have e2 : (X.sm (callM X fu (k + 1))).dv 1 = fun _ => [] := rfl
  simp only [tO] at h0 h1
  have e4 : ∀ h : MH, view h false (.dic (dkv G)) = .dic (dkv G) := fun h => rfl
  simp [-List.map_cons, exec, bindS, ev, evs, Out.bind, ofO, Sl.get, view_false, tO, e1, e2, h0, h1]
theorem b3_eq2 : b3 = .cons stA (.cons (.iff cB (.cons (.ret (.lit .non)) .nil) .nil) (.cons stC (.cons stD (.cons (.iff (.isN (.fld 0 0 (.var 0))) (.cons (.setf 0 2 (.var 0) (.lit (.int 0)) .val) (.cons (.ret (.lit .non)) .nil)) .nil) (.cons (.setf 0 1 (.var 0) (.fld 0 0 (.var 0)) .val) (.cons (.setf 0 2 (.var 0) (.glb 0) .val) (.cons (.ret (.fld 0 0 (.var 0))) .nil))))))) := rfl
theorem step (fu k : Nat) (s : TS) (ws : List Int) (G : List (Int × Int)) (d : MObj) (hl : ws.length ≤ 900) (ha : ws.Pairwise (· < ·)) : callM X fu (k + 2) 3 [.ref 0, .lst (di ws), .dic (dkv G)] [tO s, d] = .ok (oi (stepL s ws (gv G)).2) [tO (stepL s ws (gv G)).1, d] := by
  rw [call_eq (c := c3) rfl rfl]
  show endR (execB (X.sm (callM X fu (k + 1))) fu b3 (sE ws G) [tO s, d]) = _
  rw [b3_eq2]
  have hA := stA_ok (X.sm (callM X fu (k + 1))) fu s ws G d
  have hB := cB_ok (X.sm (callM X fu (k + 1))) (dec s) ws G d
  have hC := stC_ok fu k (dec s) ws G d hl ha
  have hD := stD_ok fu k ⟨nextL ws (dec s).la, (dec s).la, (dec s).le, (dec s).rw⟩ ws G d hl ha
  unfold stepL
  by_cases z : (match s.ho with | some a => decide (a ∈ ws) | none => false) = true ∧ 0 < (dec s).le
  · have hB' : ev (X.sm (callM X fu (k + 1))) cB true (sE ws G) [tO (dec s), d] = .ok (.bl true) [tO (dec s), d] := by
      rw [hB]
      have z1 : (match (dec s).ho with | some a => decide (a ∈ ws) | none => false) = true := z.1
      rw [z1, decide_eq_true z.2]
      rfl
    have z2 : (match s.ho with | some a => decide (a ∈ ws) | none => false) = true ∧ 0 < (if 0 < s.le then s.le - 1 else s.le) := z
    simp only [z2, and_self, if_true]
    simp [-List.map_cons, execB, hA, exec, bindS, hB', ev, varK, endR]
    exact ⟨rfl, rfl⟩
  · have hB' : ev (X.sm (callM X fu (k + 1))) cB true (sE ws G) [tO (dec s), d] = .ok (.bl false) [tO (dec s), d] := by
      rw [hB]
      have : ((match (dec s).ho with | some a => decide (a ∈ ws) | none => false) && decide (0 < (dec s).le)) = false := by
        rw [Bool.eq_false_iff]
        intro q
        simp only [Bool.and_eq_true, decide_eq_true_eq] at q
        exact z q
      rw [this]
    have z2 : ¬ ((match s.ho with | some a => decide (a ∈ ws) | none => false) = true ∧ 0 < (if 0 < s.le then s.le - 1 else s.le)) := z
    rw [if_neg z2]
    have la : (dec s).la = s.la := rfl
    rw [la] at hC hD
    cases e : nextL ws s.la with
    | none =>
      rw [e] at hC hD
      have e2 : (oi none).isN = true := rfl
      simp only [tO] at hA hB' hC hD
      simp [-List.map_cons, execB, hA, hC, hD, exec, bindS, hB', ev, Out.bind, ofO, Sl.get, view_false, view_oi, view_int, fldD, tO, e2, varK, endR]
      rfl
    | some a =>
      rw [e] at hC hD
      have e2 : (oi (some a)).isN = false := rfl
      simp only [tO] at hA hB' hC hD
      simp [-List.map_cons, execB, hA, hC, hD, exec, bindS, hB', ev, Out.bind, ofO, Sl.get, view_false, view_oi, view_int, fldD, tO, e2, varK, endR, con0]
end K67

set_option Elab.async false
set_option linter.all false
set_option maxRecDepth 100000
set_option maxHeartbeats 4000000
namespace K67
def goB (s : TS) (ws : List Int) : Prop := ∃ a, s.ho = some a ∧ a ∈ ws ∧ 0 < (dec s).le
theorem stepL_go {s : TS} {ws : List Int} (c : Int → Int) (h : goB s ws) : stepL s ws c = (dec s, none) := by
  obtain ⟨a, e, h1, h2⟩ := h
  unfold stepL
  rw [e]
  dsimp only
  rw [if_pos ⟨by simpa using h1, h2⟩]
  unfold dec
  rw [e]
theorem stepL_no {s : TS} {ws : List Int} (c : Int → Int) (h : ¬ goB s ws) : stepL s ws c = (match nextL ws s.la with
    | none => (⟨none, s.la, 0, (bestF c (ws.filter fun n => !decide (some n = nextL ws s.la))).take 2⟩, none)
    | some a => (⟨some a, some a, 5, (bestF c (ws.filter fun n => !decide (some n = nextL ws s.la))).take 2⟩, some a)) := by
  have hn : ¬ ((match s.ho with | some a => decide (a ∈ ws) | none => false) = true ∧ 0 < (dec s).le) := by
    intro z
    refine h ?_
    cases e : s.ho with
    | none => rw [e] at z; simp at z
    | some a =>
      rw [e] at z
      exact ⟨a, e, by simpa using z.1, z.2⟩
  unfold stepL
  dsimp only
  exact (if_neg hn).trans (by cases nextL ws s.la <;> rfl)
end K67

set_option Elab.async false
set_option linter.all false
set_option maxRecDepth 100000
set_option maxHeartbeats 4000000
namespace K67
open MP
abbrev uE (ws : List Int) (G : List (Int × Int)) : MEnv := [.val (.ref 1), .val (.lst (di ws)), .val (.dic (dkv G)), .un]
def uA : MP.S := .iff (.cmp .gt (.idx (.var 0) (.lit (.str "left"))) (.lit (.int 0))) (.cons (.seti (.var 0) (.lit (.str "left")) (.bin .sub (.idx (.var 0) (.lit (.str "left"))) (.lit (.int 1)))) .nil) .nil
theorem uA_ok (S : Sm) (fu : Nat) (s : TS) (ws : List Int) (G : List (Int × Int)) (t : MObj) : MP.exec S fu uA (uE ws G) [t, dO s] = .nx (uE ws G) [t, dO (dec s)] := by
  unfold uA
  by_cases z : 0 < s.le
  · simp [-List.map_cons, execB, exec, bindS, ev, evP, plc, getL, putL, setE, setH, Out.bind, ofO, Sl.get, view1, view_false, view_int, dO_eq, idxD, k3, KK.flat, kk, kg3, kp3, limF, gt_ii, z, binD, dec]
  · simp [-List.map_cons, execB, exec, bindS, ev, Out.bind, ofO, Sl.get, view1, view_false, view_int, dO_eq, idxD, k3, KK.flat, kk, kg3, gt_ii, z, dec]
def uB : E := .andl (.cons (.ntN (.idx (.var 0) (.lit (.str "holder")))) (.cons (.cmp .isin (.idx (.var 0) (.lit (.str "holder"))) (.var 1)) (.cons (.cmp .gt (.idx (.var 0) (.lit (.str "left"))) (.lit (.int 0))) .nil)))
theorem uB_ok (S : Sm) (s : TS) (ws : List Int) (G : List (Int × Int)) (t : MObj) : ev S uB true (uE ws G) [t, dO s] = .ok (.bl ((match s.ho with | some a => decide (a ∈ ws) | none => false) && decide (0 < s.le))) [t, dO s] := by
  unfold uB
  cases e : s.ho with
  | none =>
    have e2 : (oi none).isN = true := rfl
    simp [-List.map_cons, ev, evAnd, Out.bind, ofO, Sl.get, view1, view_false, view_int, view_oi, dO_eq, idxD, k1, k3, KK.flat, kk, kg1, kg3, e, e2]
  | some a =>
    have e2 : (oi (some a)).isN = false := rfl
    have e3 := in_oi (some a) ws
    by_cases z : a ∈ ws
    · simp [-List.map_cons, ev, evAnd, Out.bind, ofO, Sl.get, view1, view_false, view_int, view_lst, view_oi, dO_eq, idxD, k1, k3, KK.flat, kk, kg1, kg3, e, e2, e3, z, gt_ii]
    · simp [-List.map_cons, ev, evAnd, Out.bind, ofO, Sl.get, view1, view_false, view_int, view_lst, view_oi, dO_eq, idxD, k1, k3, KK.flat, kk, kg1, kg3, e, e2, e3, z]
def uC : MP.S := .seti (.var 0) (.lit (.str "holder")) (.call 8 (.cons (.var 1) (.cons (.idx (.var 0) (.lit (.str "last"))) .nil)))
theorem uC_ok (fu k : Nat) (s : TS) (ws : List Int) (G : List (Int × Int)) (t : MObj) (hl : ws.length ≤ 900) : MP.exec (X.sm (callM X fu (k + 1))) fu uC (uE ws G) [t, dO s] = .nx (uE ws G) [t, dO ⟨nextL ws s.la, s.la, s.le, s.rw⟩] := by
  unfold uC
  have h0 := law_next fu k ws s.la [t, dO s] (by omega)
  have e1 : (X.sm (callM X fu (k + 1))).call 8 = callM X fu (k + 1) 8 := rfl
  have e2 : (X.sm (callM X fu (k + 1))).dv 8 = fun _ => [] := rfl
  rw [dO_eq] at h0
  simp [-List.map_cons, exec, bindS, ev, evs, evP, plc, getL, putL, setE, setH, Out.bind, ofO, Sl.get, view1, view_false, view_int, view_lst, view_oi, dO_eq, idxD, k1, k2, KK.flat, kk, kg2, kp1, limF, e1, e2, h0]
def gE : E := flE (.idx (.var 0) (.lit (.str "holder")))
theorem gE_ok (S : Sm) (s : TS) (ws : List Int) (G : List (Int × Int)) (t : MObj) (hl : ws.length ≤ 900) : ev S gE false (uE ws G) [t, dO s] = .ok (.lst (di (ws.filter fun n => !decide (some n = s.ho)))) [t, dO s] := by
  unfold gE flE
  refine ev_filter (fun n => !decide (some n = s.ho)) (by simp [evI, ev, Out.bind, ofO, Sl.get, view_lst, D.seq]) (by omega) fun a _ => ?_
  have e3 := ne_io a s.ho
  by_cases z : some a = s.ho
  · simp [bodyC, asg, wipeE, evc, ev, Out.bind, ofO, Sl.get, view1, view_int, view_false, view_oi, dO_eq, idxD, k1, KK.flat, kk, kg1, e3, z]
  · simp [bodyC, asg, wipeE, evc, ev, Out.bind, ofO, Sl.get, view1, view_int, view_false, view_oi, dO_eq, idxD, k1, KK.flat, kk, kg1, e3, z]
def uD : MP.S := .seti (.var 0) (.lit (.str "rewards")) (.call 9 (.cons (.var 2) (.cons gE .nil)))
theorem uD_ok (fu k : Nat) (s : TS) (ws : List Int) (G : List (Int × Int)) (t : MObj) (hf : ws.length < fu) (hl : ws.length ≤ 900) : MP.exec (X.sm (callM X fu (k + 1))) fu uD (uE ws G) [t, dO s] = .nx (uE ws G) [t, dO ⟨s.ho, s.la, s.le, (bestF (gv G) (ws.filter fun n => !decide (some n = s.ho))).take 2⟩] := by
  unfold uD
  have hf2 := List.length_filter_le (fun n => !decide (some n = s.ho)) ws
  have h0 := law_best fu k G (ws.filter fun n => !decide (some n = s.ho)) [t, dO s] (by omega) (by omega)
  have h1 := gE_ok (X.sm (callM X fu (k + 1))) s ws G t hl
  have e1 : (X.sm (callM X fu (k + 1))).call 9 = callM X fu (k + 1) 9 := rfl
  have e2 : (X.sm (callM X fu (k + 1))).dv 9 = fun _ => [] := rfl
  rw [dO_eq] at h0 h1
  simp [-List.map_cons, exec, bindS, ev, evs, evP, plc, getL, putL, setE, setH, Out.bind, ofO, Sl.get, view1, view_false, view_int, view_lst, view_oi, dO_eq, idxD, k4, KK.flat, kk, kp4, limF, e1, e2, h0, h1]
theorem b10_eq2 : b10 = .cons uA (.cons (.iff uB (.cons (.ret (.lit .non)) .nil) .nil) (.cons uC (.cons uD (.cons (.iff (.isN (.idx (.var 0) (.lit (.str "holder")))) (.cons (.seti (.var 0) (.lit (.str "left")) (.lit (.int 0))) (.cons (.ret (.lit .non)) .nil)) .nil) (.cons (.seti (.var 0) (.lit (.str "last")) (.idx (.var 0) (.lit (.str "holder")))) (.cons (.seti (.var 0) (.lit (.str "left")) (.lit (.int 5))) (.cons (.ret (.idx (.var 0) (.lit (.str "holder")))) .nil))))))) := rfl
theorem turn_step (fu k : Nat) (s : TS) (ws : List Int) (G : List (Int × Int)) (t : MObj) (hf : ws.length < fu) (hl : ws.length ≤ 900) : callM X fu (k + 2) 10 [.ref 1, .lst (di ws), .dic (dkv G)] [t, dO s] = .ok (oi (stepL s ws (gv G)).2) [t, dO (stepL s ws (gv G)).1] := by
  rw [call_eq (c := c10) rfl rfl]
  show endR (execB (X.sm (callM X fu (k + 1))) fu b10 (uE ws G) [t, dO s]) = _
  rw [b10_eq2]
  have hA := uA_ok (X.sm (callM X fu (k + 1))) fu s ws G t
  have hB := uB_ok (X.sm (callM X fu (k + 1))) (dec s) ws G t
  have hC := uC_ok fu k (dec s) ws G t hl
  have hD := uD_ok fu k ⟨nextL ws (dec s).la, (dec s).la, (dec s).le, (dec s).rw⟩ ws G t hf hl
  by_cases z : goB s ws
  · have hB' : ev (X.sm (callM X fu (k + 1))) uB true (uE ws G) [t, dO (dec s)] = .ok (.bl true) [t, dO (dec s)] := by
      rw [hB]
      obtain ⟨a, e, h1, h2⟩ := z
      have e' : (dec s).ho = some a := e
      rw [e', decide_eq_true h2]
      simp [h1]
    rw [stepL_go _ z]
    simp [-List.map_cons, execB, hA, exec, bindS, hB', ev, varK, endR]
    rfl
  · have hB' : ev (X.sm (callM X fu (k + 1))) uB true (uE ws G) [t, dO (dec s)] = .ok (.bl false) [t, dO (dec s)] := by
      rw [hB]
      have : ((match (dec s).ho with | some a => decide (a ∈ ws) | none => false) && decide (0 < (dec s).le)) = false := by
        rw [Bool.eq_false_iff]
        intro q
        simp only [Bool.and_eq_true, decide_eq_true_eq] at q
        apply z
        have e' : (dec s).ho = s.ho := rfl
        rw [e'] at q
        cases e : s.ho with
        | none => rw [e] at q; simp at q
        | some a =>
          rw [e] at q
          exact ⟨a, e, by simpa using q.1, q.2⟩
      rw [this]
    rw [stepL_no _ z]
    have la : (dec s).la = s.la := rfl
    rw [la] at hC hD
    cases e : nextL ws s.la with
    | none =>
      rw [e] at hC hD
      have e2 : (oi none).isN = true := rfl
      simp only [dO_eq] at hA hB' hC hD
      simp [-List.map_cons, execB, hA, hC, hD, exec, bindS, hB', ev, evP, plc, getL, putL, setE, setH, Out.bind, ofO, Sl.get, view1, view_false, view_oi, view_int, dO_eq, idxD, k1, k2, k3, k4, KK.flat, kk, kg1, kp2, kp3, limF, e2, varK, endR]
      rfl
    | some a =>
      rw [e] at hC hD
      have e2 : (oi (some a)).isN = false := rfl
      simp only [dO_eq] at hA hB' hC hD
      simp [-List.map_cons, execB, hA, hC, hD, exec, bindS, hB', ev, evP, plc, getL, putL, setE, setH, Out.bind, ofO, Sl.get, view1, view_false, view_oi, view_int, dO_eq, idxD, k1, k2, k3, k4, KK.flat, kk, kg1, kp2, kp3, limF, e2, varK, endR]
end K67

set_option Elab.async false
set_option linter.all false
set_option maxRecDepth 100000
set_option maxHeartbeats 4000000
namespace K67
/-! ### the invariant -/
def dist (c : Nat) (last : Option Int) (n : Int) : Int := (n - last.getD (-1) - 1) % (c : Int)
structure Inv (c : Nat) (s : TS) (held : Int) (W : Int → Int) : Prop where
  la : ∀ a, s.la = some a → 0 ≤ a ∧ a < c
  ho : ∀ a, s.ho = some a → 1 ≤ s.le ∧ held + s.le = 6
  le : 0 ≤ s.le ∧ s.le ≤ 5
  rw : s.rw.length ≤ 2
  w : ∀ n : Int, 0 ≤ n → n < c → 0 ≤ W n ∧ W n + 5 * dist c s.la n + max s.le 1 ≤ 5 * c
def InR (c : Nat) (ws : List Int) : Prop := ws.Pairwise (· < ·) ∧ ∀ n ∈ ws, 0 ≤ n ∧ n < c
theorem leave_inv {c : Nat} {s : TS} {held : Int} {W : Int → Int} (I : Inv c s held W) (n : Int) : Inv c (leaveL s n) held W := by
  obtain ⟨h1, h2, h3, h4, h5⟩ := I
  unfold leaveL
  by_cases z : s.ho = some n
  · refine ⟨h1, ?_, ?_, ?_, ?_⟩
    · intro a e; simp [z] at e
    · simp [z]
    · exact Nat.le_trans (List.length_filter_le _ _) h4
    · intro m a b
      have := h5 m a b
      simp only [z, if_true]
      refine ⟨this.1, ?_⟩
      have := this.2
      omega
  · refine ⟨h1, ?_, ?_, ?_, ?_⟩
    · intro a e; simp [z] at e; simp [z]; exact h2 a e
    · simp [z]; exact h3
    · exact Nat.le_trans (List.length_filter_le _ _) h4
    · intro m a b
      simp only [z, if_false]
      exact h5 m a b
theorem dist_lt {c : Nat} (hc : 0 < c) (la : Option Int) (n : Int) : 0 ≤ dist c la n ∧ dist c la n ≤ c - 1 := by
  unfold dist
  have h1 := Int.emod_nonneg (n - la.getD (-1) - 1) (show (c : Int) ≠ 0 by omega)
  have h2 := Int.emod_lt_of_pos (n - la.getD (-1) - 1) (show (0 : Int) < c by omega)
  omega
theorem mod_small {x c : Int} (h1 : 0 ≤ x) (h2 : x < c) : x % c = x := Int.emod_eq_of_lt h1 h2
theorem mod_add {x c : Int} (h1 : -c ≤ x) (h2 : x < 0) : x % c = x + c := by
  rw [← Int.add_emod_right, mod_small (by omega) (by omega)]
/-- the distance in numbers -/
theorem dist_eq {c : Nat} {la n : Int} (h1 : -1 ≤ la) (h2 : la < c) (h3 : 0 ≤ n) (h4 : n < c) : (n - la - 1) % (c : Int) = if la < n then n - la - 1 else n - la - 1 + c := by
  split
  · exact mod_small (by omega) (by omega)
  · exact mod_add (by omega) (by omega)
theorem next_dist {c : Nat} {ws : List Int} {la : Option Int} {a n : Int} (hw : InR c ws) (hl : ∀ b, la = some b → 0 ≤ b ∧ b < c) (e : nextL ws la = some a) (hn : n ∈ ws) (hne : n ≠ a) : a ∈ ws ∧ dist c (some a) n + 1 ≤ dist c la n := by
  obtain ⟨hp, hr⟩ := hw
  have hla : -1 ≤ la.getD (-1) ∧ la.getD (-1) < c := by
    cases la with
    | none => have := hr n hn; simp; omega
    | some b => have := hl b rfl; simp; omega
  have haft : ∀ m, m ∈ ws → (aft la m = true ↔ la.getD (-1) < m) := by
    intro m hm
    have := hr m hm
    cases la with
    | none => simp [aft]; omega
    | some b => simp [aft]
  have key : a ∈ ws ∧ ((la.getD (-1) < a ∧ ∀ m ∈ ws, la.getD (-1) < m → a ≤ m) ∨ (∀ m ∈ ws, m ≤ la.getD (-1) ∧ a ≤ m)) := by
    unfold nextL at e
    split at e
    · rename_i b r eb
      cases e
      have hb : a ∈ ws.filter (aft la) := by rw [eb]; simp
      have hb2 := List.mem_filter.mp hb
      refine ⟨hb2.1, .inl ⟨(haft a hb2.1).mp hb2.2, fun m hm hlm => ?_⟩⟩
      have hm2 : m ∈ ws.filter (aft la) := List.mem_filter.mpr ⟨hm, (haft m hm).mpr hlm⟩
      have hp2 := hp.filter (aft la)
      rw [eb] at hm2 hp2
      rcases List.mem_cons.mp hm2 with q | q
      · omega
      · have := (List.pairwise_cons.mp hp2).1 m q
        omega
    · rename_i eb
      cases ws with
      | nil => simp at hn
      | cons b r =>
        cases e
        refine ⟨by simp, .inr fun m hm => ⟨?_, ?_⟩⟩
        · have : m ∉ (a :: r).filter (aft la) := by rw [eb]; simp
          have : ¬ aft la m = true := fun z => this (List.mem_filter.mpr ⟨hm, z⟩)
          rw [haft m hm] at this
          omega
        · rcases List.mem_cons.mp hm with q | q
          · omega
          · have := (List.pairwise_cons.mp hp).1 m q
            omega
  refine ⟨key.1, ?_⟩
  have ha := hr a key.1
  have hn' := hr n hn
  unfold dist
  rw [dist_eq hla.1 hla.2 hn'.1 hn'.2]
  show (n - a - 1) % (c : Int) + 1 ≤ _
  rw [dist_eq (by omega) ha.2 hn'.1 hn'.2]
  rcases key.2 with ⟨k1, k2⟩ | k
  · by_cases z : la.getD (-1) < n
    · have := k2 n hn z
      rw [if_pos z]
      split <;> omega
    · rw [if_neg z]
      split <;> omega
  · have k1 := k n hn
    have k2 := k a key.1
    rw [if_neg (show ¬ la.getD (-1) < n by omega)]
    split <;> omega
def newW (ws : List Int) (dealt : Option Int) (W : Int → Int) (n : Int) : Int := if n ∉ ws ∨ some n = dealt then 0 else W n + 1
def newH (dealt : Option Int) (held : Int) : Int := match dealt with | some _ => 1 | none => held + 1
theorem take2_len (l : List Int) : (l.take 2).length ≤ 2 := by simp; omega
theorem step_inv {c : Nat} (hc : 0 < c) {s : TS} {held : Int} {W : Int → Int} (I : Inv c s held W) {ws : List Int} (hw : InR c ws) (g : Int → Int) :
    Inv c (stepL s ws g).1 (newH (stepL s ws g).2 held) (newW ws (stepL s ws g).2 W) ∧ ((stepL s ws g).1.ho = none → (stepL s ws g).1.rw = []) := by
  obtain ⟨h1, h2, h3, h4, h5⟩ := I
  by_cases z : goB s ws
  · rw [stepL_go g z]
    obtain ⟨b, e, z1, z2⟩ := z
    have hb := h2 b e
    have z3 : 0 < s.le := by omega
    have z2 : 0 < (if 0 < s.le then s.le - 1 else s.le) := z2
    unfold dec
    simp only [z3, if_true] at z2 ⊢
    refine ⟨⟨h1, fun a _ => ?_, ?_, h4, fun n hn1 hn2 => ?_⟩, fun q => by simp [e] at q⟩
    · simp only [newH]; omega
    · dsimp only; omega
    · have := h5 n hn1 hn2
      have d := dist_lt hc s.la n
      unfold newW
      split
      · dsimp only; omega
      · dsimp only; omega
  · rw [stepL_no g z]
    cases e : nextL ws s.la with
    | none =>
      have hws : ws = [] := by
        unfold nextL at e
        split at e
        · cases e
        · cases ws with
          | nil => rfl
          | cons a r => cases e
      subst hws
      dsimp only
      refine ⟨⟨h1, fun a q => by simp at q, by dsimp only; omega, by simp [bestF], fun n hn1 hn2 => ?_⟩, fun _ => by simp [bestF]⟩
      have d := dist_lt hc s.la n
      unfold newW
      simp
      omega
    | some a =>
      have ha : a ∈ ws := by
        unfold nextL at e
        split at e
        · rename_i b r eb
          cases e
          have hb : a ∈ ws.filter (aft s.la) := by rw [eb]; simp
          exact (List.mem_filter.mp hb).1
        · cases ws with
          | nil => simp at e
          | cons b r => simp at e; simp [e]
      have har := hw.2 a ha
      dsimp only
      refine ⟨⟨fun b q => by cases q; exact har, fun b _ => by simp [newH], by dsimp only; omega, take2_len _, fun n hn1 hn2 => ?_⟩, fun q => by simp at q⟩
      have d := dist_lt hc (some a) n
      unfold newW
      split
      · dsimp only; omega
      · rename_i q
        have q1 : n ∈ ws := Classical.byContradiction fun y => q (.inl y)
        have q2 : n ≠ a := fun y => q (.inr (by rw [y]))
        have := next_dist hw h1 e q1 q2
        have h6 := h5 n hn1 hn2
        dsimp only
        omega
theorem served_ok {c : Nat} {s : TS} {held : Int} {W : Int → Int} (I : Inv c s held W) (hn : s.ho = none → s.rw = []) : (servL s).length ≤ 3 ∧ (0 < (servL s).length → held ≤ 5) := by
  have hl : (servL s).length = s.rw.length + s.ho.toList.length := by
    unfold servL srt
    rw [List.length_mergeSort, List.length_append]
  have h4 := I.rw
  cases e : s.ho with
  | none =>
    rw [hn e, e] at hl
    have hl : (servL s).length = 0 := hl
    omega
  | some a =>
    rw [e] at hl
    have := I.ho a e
    have hl : (servL s).length = s.rw.length + 1 := hl
    omega
end K67

set_option Elab.async false
set_option linter.all false
set_option maxRecDepth 100000
set_option maxHeartbeats 4000000
namespace K67
open MP
abbrev kvi (v : Int → D) (ns : List Int) : List (KK × D) := ns.map fun n => ((.inl (.inl n) : KK), v n)
def rg (n : Nat) : List Int := (List.range n).map fun (i : Nat) => (i : Int)
theorem rngD_di' (n : Nat) : rngD 0 n = di (rg n) := by
  unfold rngD rg
  simp
theorem rg_inr (c : Nat) : InR c (rg c) := by
  unfold rg
  refine ⟨?_, ?_⟩
  · rw [List.pairwise_map]
    exact List.pairwise_lt_range.imp fun h => by omega
  · intro n hn
    simp at hn
    obtain ⟨i, hi, rfl⟩ := hn
    omega
theorem InR.filter {c : Nat} {ws : List Int} (h : InR c ws) (p : Int → Bool) : InR c (ws.filter p) := ⟨h.1.filter p, fun n hn => h.2 n (List.mem_filter.mp hn).1⟩
theorem asc_len : ∀ {ws : List Int} {lo c : Int}, ws.Pairwise (· < ·) → (∀ n ∈ ws, lo ≤ n ∧ n < c) → lo ≤ c → (ws.length : Int) ≤ c - lo
  | [], lo, c, _, _, h => by simp; omega
  | a :: r, lo, c, h, k, hl => by
    have ha := k a (by simp)
    have := asc_len (ws := r) (lo := a + 1) (c := c) (List.pairwise_cons.mp h).2 (fun n hn => ⟨(List.pairwise_cons.mp h).1 n hn, (k n (by simp [hn])).2⟩) (by omega)
    simp only [List.length_cons]
    omega
theorem InR.len {c : Nat} {ws : List Int} (h : InR c ws) : ws.length ≤ c := by
  have := asc_len h.1 h.2 (by omega)
  omega
theorem rg_len (c : Nat) : (rg c).length = c := by simp [rg]
/-! ### dicts that are made of pairs -/
theorem kput_new {kvs : List (KK × D)} {k : KK} {v : D} (h : ∀ p ∈ kvs, p.1 ≠ k) : kput kvs k v = kvs ++ [(k, v)] := by
  unfold kput
  rw [if_neg]
  simp only [List.any_eq_true, decide_eq_true_eq, not_exists, not_and]
  exact fun p hp => h p hp
theorem merge_nodup : ∀ (more acc : List (KK × D)), (more.map (·.1)).Nodup → (∀ p ∈ more, ∀ q ∈ acc, q.1 ≠ p.1) → mergeD acc more = acc ++ more
  | [], acc, _, _ => by simp [mergeD]
  | p :: r, acc, hn, hd => by
    have hn := List.nodup_cons.mp (show (p.1 :: r.map (·.1)).Nodup from hn)
    show mergeD (kput acc p.1 p.2) r = _
    rw [kput_new (fun q hq => hd p (by simp) q hq), merge_nodup r _ hn.2]
    · simp
    · intro x hx q hq
      rcases List.mem_append.mp hq with hq | hq
      · exact hd x (by simp [hx]) q hq
      · simp at hq
        subst hq
        intro e
        exact hn.1 (by rw [show p.1 = x.1 from e]; exact List.mem_map_of_mem hx)
theorem pairs_of {v : Int → D} : ∀ ns : List Int, pairsD (ns.map fun n => .tup [.int n, v n]) = some (ns.map fun n => ((.inl (.inl n) : KK), v n))
  | [] => rfl
  | n :: r => by
    show (match (D.int n).key0, pairsD (r.map fun n => .tup [.int n, v n]) with | some k, some t => some (((Sum.inl k : KK), v n) :: t) | _, _ => none) = _
    rw [pairs_of r]
    rfl
theorem asc_nodup {ns : List Int} (h : ns.Pairwise (· < ·)) : ns.Nodup := h.imp fun h => by omega
theorem keys_nodup {v : Int → D} : ∀ {ns : List Int}, ns.Nodup → ((ns.map fun n => ((.inl (.inl n) : KK), v n)).map (·.1)).Nodup
  | [], _ => List.nodup_nil
  | a :: r, h => by
    obtain ⟨h1, h2⟩ := List.nodup_cons.mp h
    refine List.nodup_cons.mpr ⟨fun z => ?_, keys_nodup h2⟩
    simp at z
    exact h1 z
theorem dict_of {v : Int → D} {ns : List Int} (h : ns.Nodup) : biD .dict [.lst (ns.map fun n => .tup [.int n, v n])] = some (.dic (ns.map fun n => ((.inl (.inl n) : KK), v n))) := by
  show (pairsD (ns.map fun n => .tup [.int n, v n])).map (fun kvs => D.dic (mergeD [] kvs)) = _
  rw [pairs_of]
  show some (D.dic (mergeD [] _)) = _
  rw [merge_nodup _ [] (keys_nodup h) (by simp)]
  rfl
def addK (ns : List Int) (x : Int) : List Int := if x ∈ ns then ns else ns ++ [x]
theorem kput_same {v : Int → D} {x : Int} : ∀ {ns : List Int}, x ∈ ns → kput (ns.map fun n => (.inl (.inl n), v n)) (.inl (.inl x)) (v x) = ns.map fun n => (.inl (.inl n), v n) := by
  intro ns h
  unfold kput
  rw [if_pos]
  · rw [List.map_map]
    refine List.map_congr_left fun n _ => ?_
    simp only [Function.comp]
    split
    · rename_i e
      simp at e
      rw [e]
    · rfl
  · simp only [List.any_eq_true, decide_eq_true_eq]
    exact ⟨_, List.mem_map_of_mem h, rfl⟩
theorem dict_add {v : Int → D} {ns : List Int} {x : Int} (h : ns.Nodup) : biD .dict [.lst ((ns ++ [x]).map fun n => .tup [.int n, v n])] = some (.dic ((addK ns x).map fun n => (.inl (.inl n), v n))) := by
  show (pairsD ((ns ++ [x]).map fun n => .tup [.int n, v n])).map (fun kvs => D.dic (mergeD [] kvs)) = _
  rw [pairs_of]
  show some (D.dic (mergeD [] _)) = _
  have e : mergeD [] ((ns ++ [x]).map fun n => ((.inl (.inl n) : KK), v n)) = kput (mergeD [] (ns.map fun n => ((.inl (.inl n) : KK), v n))) (.inl (.inl x)) (v x) := by
    unfold mergeD
    rw [List.map_append, List.foldl_append]
    rfl
  rw [e, merge_nodup _ [] (keys_nodup h) (by simp), List.nil_append]
  unfold addK
  split
  · rename_i z
    rw [kput_same z]
  · rename_i z
    rw [kput_new]
    · simp
    · intro p hp
      obtain ⟨n, hn, rfl⟩ := List.mem_map.mp hp
      intro e
      simp at e
      exact z (by rw [← e]; exact hn)
theorem ints_of : ∀ ns : List Int, intsD (ns.map D.int) = some ns
  | [] => rfl
  | a :: r => by
    show (intsD (r.map D.int)).map (a :: ·) = _
    rw [ints_of r]
    rfl
theorem sorted_keys {v : Int → D} {ns : List Int} (h : ns.length < 64) : biD .sorted [.dic (ns.map fun n => (.inl (.inl n), v n))] = some (.lst (di (srt ns))) := by
  show (if (kinds true _ && decide ((ns.map fun n => ((.inl (.inl n) : KK), v n)).length < 64)) = true then _ else _) = _
  have k1 : kinds true (ns.map fun n => ((.inl (.inl n) : KK), v n)) = true := by
    unfold kinds
    rw [List.all_eq_true]
    intro p hp
    obtain ⟨n, hn, rfl⟩ := List.mem_map.mp hp
    rfl
  rw [if_pos (by rw [k1]; simpa using h)]
  rw [List.map_map]
  show (intsD (ns.map fun n => D.int n)).map _ = _
  rw [ints_of]
  rfl
theorem srt_asc {ns : List Int} (h : ns.Nodup) : (srt ns).Pairwise (· < ·) := by
  have p := List.mergeSort_perm ns (fun a b => decide (a ≤ b))
  have n2 : (srt ns).Nodup := p.nodup_iff.mpr h
  have s2 : (srt ns).Pairwise (fun a b => decide (a ≤ b) = true) := List.pairwise_mergeSort (fun a b c h1 h2 => by simp at *; omega) (fun a b => by simp; omega) ns
  exact (s2.and n2).imp fun h => by
    have h1 := h.1
    have h2 := h.2
    simp at h1
    omega
theorem addK_srt {c : Nat} {ws : List Int} {x : Int} (h : InR c ws) (hx : 0 ≤ x ∧ x < c) : InR c (srt (addK ws x)) := by
  have n1 : (addK ws x).Nodup := by
    unfold addK
    split
    · exact asc_nodup h.1
    · rename_i z
      refine List.nodup_append.mpr ⟨asc_nodup h.1, by simp, fun a ha b hb => ?_⟩
      simp at hb
      intro e
      exact z (by rw [← hb, ← e]; exact ha)
  refine ⟨srt_asc n1, fun n hn => ?_⟩
  have : n ∈ addK ws x := (List.mergeSort_perm _ _).subset hn
  unfold addK at this
  split at this
  · exact h.2 n this
  · rcases List.mem_append.mp this with q | q
    · exact h.2 n q
    · simp at q
      rw [q]
      exact hx
theorem addK_len {ws : List Int} {x : Int} : (addK ws x).length ≤ ws.length + 1 := by
  unfold addK
  split
  · omega
  · simp
theorem fmod_rg (x : Int) {c : Int} (h : 0 < c) : 0 ≤ x.fmod c ∧ x.fmod c < c := ⟨Int.fmod_nonneg_of_pos x h, Int.fmod_lt_of_pos x h⟩
theorem fm_map {g : Int → D} : ∀ ns : List Int, (ns.filterMap fun a => some (g a)) = ns.map g
  | [] => rfl
  | a :: r => by simp
end K67

set_option Elab.async false
set_option linter.all false
set_option maxRecDepth 100000
set_option maxHeartbeats 4000000
namespace K67
open MP
theorem rg_map (c : Nat) (p : Int → Bool) : ((List.range c).filter fun i => p (i : Nat)).map (fun i => D.int (i : Nat)) = di ((rg c).filter p) := by
  unfold rg
  rw [List.filter_map]
  simp [di]
  rfl
theorem wishing (fu k : Nat) (rich : Int) (c : Nat) (ws : List Int) (h : MH) (hw : InR c ws) (hc : 0 < c) (hc2 : c ≤ 60) : ∃ ws', callM X fu (k + 1) 13 [.int rich, .lst (di ws), .int c] h = .ok (.lst (di ws')) h ∧ InR c ws' := by
  have hwl := hw.len
  rw [call_eq (c := c13) rfl rfl]
  show ∃ ws', endR (execB (X.sm (callM X fu k)) fu b13 [.val (.int rich), .val (.lst (di ws)), .val (.int c), .un, .un, .un] h) = _ ∧ _
  have cb : (-4611686018427387904 : Int) ≤ c ∧ (c : Int) < 4611686018427387904 := by omega
  have cb2 : ¬ c = 0 ∧ (-1073741824 : Int) < c ∧ (c : Int) < 1073741824 := by omega
  have c3 : c ≤ 16777216 := by omega
  have c4 : ws.length ≤ 16777216 := by omega
  have c5 : ws.length + 1 ≤ 16777216 := by omega
  unfold b13
  by_cases z0 : rich.fmod 5 = 0
  · refine ⟨(rg c).filter fun n => !decide ((rich.fdiv 5).fmod 7 = n.fmod 7), ?_, (rg_inr c).filter _⟩
    simp [cb, z0, eq_ii, ne_ii, biD, c3]
    exact rg_map c fun n => !decide ((rich.fdiv 5).fmod 7 = n.fmod 7)
  by_cases z1 : rich.fmod 5 = 1
  · refine ⟨(rg c).filter fun n => !decide (n ∈ ws) || decide (n.fmod 2 = (rich.fdiv 5).fmod 2), ?_, (rg_inr c).filter _⟩
    have nin : ∀ a : Int, cmpD .ntin (.int a) (.lst (di ws)) = some (!decide (a ∈ ws)) := fun a => by
      rw [show D.int a = oi (some a) from rfl, nin_oi]
      simp
    simp [cb, z1, eq_ii, ne_ii, biD, c3, nin]
    have := rg_map c fun n => !decide (n ∈ ws) || decide (n.fmod 2 = (rich.fdiv 5).fmod 2)
    rw [← this]
  by_cases z2 : rich.fmod 5 = 2
  · refine ⟨ws.filter fun n => !decide (n = (rich.fdiv 5).fmod c), ?_, hw.filter _⟩
    simp [cb2, z2, eq_ii, ne_ii, biD, c4]
  · refine ⟨srt (addK ws ((rich.fdiv 5).fmod c)), ?_, addK_srt hw (fmod_rg _ (by omega))⟩
    have hd := dict_add (v := fun _ => .bl true) (ns := ws) (x := (rich.fdiv 5).fmod c) (asc_nodup hw.1)
    have hl := addK_len (ws := ws) (x := (rich.fdiv 5).fmod c)
    have hs := sorted_keys (v := fun _ => .bl true) (ns := addK ws ((rich.fdiv 5).fmod c)) (by omega)
    simp [cb2, z0, z1, z2, eq_ii, c5, hd]
    have e : ws.map (fun x => D.tup [.int x, .bl true]) ++ [D.tup [.int ((rich.fdiv 5).fmod c), .bl true]] = (ws ++ [(rich.fdiv 5).fmod c]).map fun n => D.tup [.int n, .bl true] := by simp
    rw [e, hd]
    simp [hs]
end K67

set_option Elab.async false
set_option linter.all false
set_option maxRecDepth 100000
set_option maxHeartbeats 4000000
namespace K67
open MP
/-! ### the dict of waits -/
def putI (G : List (Int × Int)) (n v : Int) : List (Int × Int) := if G.any (fun p => decide (p.1 = n)) then G.map fun p => if p.1 = n then (n, v) else p else G ++ [(n, v)]
theorem kput_dkv (G : List (Int × Int)) (n v : Int) : kput (dkv G) (.inl (.inl n)) (.int v) = dkv (putI G n v) := by
  unfold kput putI dkv
  have e : (G.map fun p => ((.inl (.inl p.1) : KK), D.int p.2)).any (fun p => decide (p.1 = .inl (.inl n))) = G.any (fun p => decide (p.1 = n)) := by
    rw [List.any_map]
    congr 1
    funext p
    simp
  rw [e]
  split
  · rw [List.map_map, List.map_map]
    refine List.map_congr_left fun p _ => ?_
    simp only [Function.comp]
    by_cases z : p.1 = n <;> simp [z]
  · simp
theorem lookup_app : ∀ (G : List (Int × Int)) (n v m : Int), (∀ p ∈ G, p.1 ≠ n) → (G ++ [(n, v)]).lookup m = if m = n then some v else G.lookup m
  | [], n, v, m, _ => by
    by_cases z : m = n
    · simp [List.lookup, z]
    · have : (m == n) = false := by simpa using z
      simp [List.lookup, z, this]
  | p :: r, n, v, m, h => by
    obtain ⟨a, b⟩ := p
    have ha : a ≠ n := h (a, b) (by simp)
    rw [List.cons_append, List.lookup_cons, List.lookup_cons, lookup_app r n v m fun p hp => h p (by simp [hp])]
    by_cases z : m = a
    · have : m ≠ n := by rw [z]; exact ha
      simp [z, ha]
    · have : (m == a) = false := by simpa using z
      simp [this]
theorem lookup_map : ∀ (G : List (Int × Int)) (n v m : Int), (∃ p ∈ G, p.1 = n) → (G.map fun p => if p.1 = n then (n, v) else p).lookup m = if m = n then some v else G.lookup m
  | [], n, v, m, h => by simp at h
  | p :: r, n, v, m, h => by
    obtain ⟨a, b⟩ := p
    rw [List.map_cons, List.lookup_cons]
    by_cases z : a = n
    · subst z
      simp only [if_true]
      rw [List.lookup_cons]
      by_cases y : m = a
      · simp [y]
      · have : (m == a) = false := by simpa using y
        simp only [this, y, if_false]
        have : ∀ r : List (Int × Int), (r.map fun p => if p.1 = a then (a, v) else p).lookup m = r.lookup m := by
          intro r
          induction r with
          | nil => rfl
          | cons q r ih =>
            obtain ⟨c, d⟩ := q
            rw [List.map_cons, List.lookup_cons]
            by_cases w : c = a
            · subst w
              simp only [if_true]
              rw [List.lookup_cons, ih]
              simp [this]
            · simp only [w, if_false]
              rw [List.lookup_cons, ih]
        exact this r
    · simp only [z, if_false]
      rw [List.lookup_cons]
      have h2 : ∃ p ∈ r, p.1 = n := by
        obtain ⟨p, hp, e⟩ := h
        rcases List.mem_cons.mp hp with q | q
        · rw [q] at e; exact (z e).elim
        · exact ⟨p, q, e⟩
      rw [lookup_map r n v m h2]
      by_cases y : m = a
      · have : m ≠ n := by rw [y]; exact z
        simp [y, z]
      · have : (m == a) = false := by simpa using y
        simp [this]
theorem gv_put (G : List (Int × Int)) (n v m : Int) : gv (putI G n v) m = if m = n then v else gv G m := by
  unfold gv putI
  split
  · rename_i h
    rw [lookup_map]
    · split <;> rfl
    · simpa using h
  · rename_i h
    rw [lookup_app]
    · split <;> rfl
    · exact fun p hp e => h (List.any_eq_true.mpr ⟨p, hp, by simpa using e⟩)
theorem put_len (G : List (Int × Int)) (n v : Int) : (putI G n v).length ≤ G.length + 1 := by
  unfold putI
  split <;> simp
theorem put_has (G : List (Int × Int)) (n v : Int) : (putI G n v).lookup n = some v := by
  unfold putI
  split
  · rename_i h
    rw [lookup_map]
    · simp
    · simpa using h
  · rename_i h
    rw [lookup_app]
    · simp
    · exact fun p hp e => h (List.any_eq_true.mpr ⟨p, hp, by simpa using e⟩)
/-! ### the inner loop -/
abbrev inE (ns : List Int) (c : Nat) (s4 : Sl) (ws : List Int) (G : List (Int × Int)) (held : Int) (j8 j9 j10 j11 : Sl) (dealt : Option Int) (j13 j14 : Sl) : MEnv :=
  [.val (.rol (di ns)), .val (.ref 0), .val (.ref 1), .val (.int c), s4, .val (.lst (di ws)), .od (dkv G), .val (.int held), j8, j9, j10, j11, .val (oi dealt), j13, j14]
theorem nin_i (a : Int) (ws : List Int) : cmpD .ntin (.int a) (.lst (di ws)) = some (!decide (a ∈ ws)) := by
  rw [show D.int a = oi (some a) from rfl, nin_oi]
  simp
theorem eq_io (a : Int) (b : Option Int) : cmpD .eq (.int a) (oi b) = some (decide (some a = b)) := eq_oo (some a) b
theorem idx_dkv (G : List (Int × Int)) (n v : Int) (e : G.lookup n = some v) : idxD (.dic (dkv G)) (.int n) = some (.int v) := by
  unfold idxD
  simp only [key_i, Option.bind_some, flat_l, kinds_dkv, Bool.and_self, if_true, kget_dkv, e]
  rfl
theorem inner_ok (S : Sm) (fu : Nat) (ns : List Int) (c n : Nat) (s4 : Sl) (ws : List Int) (G : List (Int × Int)) (held : Int) (j8 j9 j10 j11 j13 j14 : Sl) (dealt : Option Int) (h : MH) (hl : G.length < 16777216) (hw : newW ws dealt (gv G) n ≤ 5 * c) :
    forB S fu (.name 4) bk14_1 (.int n) (inE ns c s4 ws G held j8 j9 j10 j11 dealt j13 j14) h = .nx (inE ns c (.val (.int n)) ws (putI G n (newW ws dealt (gv G) n)) held j8 j9 j10 j11 dealt j13 j14) h := by
  have hl' : G.length + 1 ≤ 16777216 := by omega
  have hw' : ¬ (5 * (c : Int) < newW ws dealt (gv G) n) := by omega
  have g2 := r_get2 (S := S) (b := true) (h := h) (env := inE ns c (.val (.int n)) ws G held j8 j9 j10 j11 dealt j13 j14) (o := .var 6) (y := .var 4) (z := .lit (.int 0)) (kvs := dkv G) (by simp)
  have g3 : get2D (.dic (dkv G)) (.int n) (.int 0) = some (.int (gv G n)) := by
    unfold get2D
    simp only [key_i, Option.bind_some, flat_l, kinds_dkv, Bool.and_self, if_true, get_gv]
  have ix := idx_dkv (putI G n (newW ws dealt (gv G) n)) n _ (put_has G n (newW ws dealt (gv G) n))
  have kp := kput_dkv G n (newW ws dealt (gv G) n)
  rw [r_forB]
  unfold bk14_1
  by_cases z : (n : Int) ∉ ws ∨ some (n : Int) = dealt
  · have e : newW ws dealt (gv G) n = 0 := by unfold newW; rw [if_pos z]
    rw [e] at ix kp hw' ⊢
    simp [nin_i, eq_io, z, hl', kinds_dkv, kp, ix, hw']
    skip
  · have e : newW ws dealt (gv G) n = gv G n + 1 := by unfold newW; rw [if_neg z]
    rw [e] at ix kp hw' ⊢
    simp [nin_i, eq_io, z, hl', kinds_dkv, kp, ix, hw', g2, g3]
    skip
end K67

set_option Elab.async false
set_option linter.all false
set_option maxRecDepth 100000
set_option maxHeartbeats 4000000
namespace K67
open MP
theorem inner_all (S : Sm) (fu : Nat) (ns : List Int) (c : Nat) (s4 : Sl) (ws : List Int) (G : List (Int × Int)) (held : Int) (j8 j9 j10 j11 j13 j14 : Sl) (dealt : Option Int) (h : MH) (hl : G.length + c < 16777216) (hw : ∀ n : Nat, n < c → newW ws dealt (gv G) n ≤ 5 * c) :
    ∃ s4' G', MP.exec S fu st14_12 (inE ns c s4 ws G held j8 j9 j10 j11 dealt j13 j14) h = .nx (inE ns c s4' ws G' held j8 j9 j10 j11 dealt j13 j14) h ∧ G'.length ≤ G.length + c ∧ ∀ n : Nat, n < c → gv G' n = newW ws dealt (gv G) n := by
  have cb : (-4611686018427387904 : Int) ≤ c ∧ (c : Int) < 4611686018427387904 := by omega
  obtain ⟨e1, h1, q1, q2⟩ := loopF_inv (f := forB S fu (.name 4) bk14_1) (g := fun i : Nat => D.int i) (fun j e h' => h' = h ∧ ∃ s4' G', e = inE ns c s4' ws G' held j8 j9 j10 j11 dealt j13 j14 ∧ G'.length ≤ G.length + j ∧ ∀ n : Nat, gv G' n = if n < j then newW ws dealt (gv G) n else gv G n) (List.range c) 0 (inE ns c s4 ws G held j8 j9 j10 j11 dealt j13 j14) h
    ⟨rfl, s4, G, rfl, by omega, fun n => by simp⟩ (fun j x e h' hx p => by
      obtain ⟨rfl, s4', G', rfl, p1, p2⟩ := p
      rw [Nat.zero_add] at *
      obtain ⟨hj, hxj⟩ : j < c ∧ x = j := by
        obtain ⟨a1, a2⟩ := List.getElem?_eq_some_iff.mp hx
        simp at a1 a2
        exact ⟨a1, a2.symm⟩
      subst hxj
      have hx : newW ws dealt (gv G') x = newW ws dealt (gv G) x := by
        unfold newW
        rw [p2, if_neg (Nat.lt_irrefl _)]
      refine ⟨_, _, .inl (inner_ok S fu ns c x s4' ws G' held j8 j9 j10 j11 j13 j14 dealt h' (by omega) (by rw [hx]; exact hw x hj)), rfl, _, _, rfl, ?_, fun n => ?_⟩
      · have := put_len G' x (newW ws dealt (gv G') x)
        omega
      · rw [gv_put, hx]
        by_cases z : n = x
        · subst z
          rw [if_pos rfl, if_pos (by omega)]
        · rw [if_neg (by omega), p2]
          by_cases y : n < x
          · rw [if_pos y, if_pos (by omega)]
          · rw [if_neg y, if_neg (by omega)])
  obtain ⟨rfl, s4', G', rfl, p1, p2⟩ := q2
  rw [List.length_range, Nat.zero_add] at p1 p2
  refine ⟨s4', G', ?_, p1, fun n hn => by rw [p2, if_pos hn]⟩
  unfold st14_12
  simp [cb, q1]
/-! ### the outer loop -/
abbrev oE (ns : List Int) (c : Nat) (s4 : Sl) (ws : List Int) (w6 : Sl) (held : Int) (j8 j9 j10 j11 j12 j13 j14 : Sl) : MEnv :=
  [.val (.rol (di ns)), .val (.ref 0), .val (.ref 1), .val (.int c), s4, .val (.lst (di ws)), w6, .val (.int held), j8, j9, j10, j11, j12, j13, j14]
section
variable (fu k : Nat) (ns : List Int) (c : Nat) (s4 : Sl) (ws : List Int) (w6 : Sl) (held : Int) (j9 j10 j11 j12 j13 j14 : Sl) (i : Nat) (rich : Int) (s : TS)
theorem s1_ok (h : MH) : ∃ rich, MP.exec (X.sm (callM X fu (k + 1))) fu st14_1 (oE ns c s4 ws w6 held (.val (.int i)) j9 j10 j11 j12 j13 j14) h = .nx (oE ns c s4 ws w6 held (.val (.int i)) (.val (.int rich)) j10 j11 j12 j13 j14) h := by
  refine ⟨richL (ns.getD (1 + i / 2) 0) i, ?_⟩
  have e : (1 : Int) + (i : Int).fdiv 2 = ((1 + i / 2 : Nat) : Int) := by
    rw [Int.fdiv_eq_ediv_of_nonneg _ (by omega)]
    omega
  have e2 := law_cell fu k ns (1 + i / 2) h
  rw [← e] at e2
  unfold st14_1
  simp [e2, law_rich]
theorem s2_ok (h : MH) (hw : InR c ws) (hc : 0 < c) (hc2 : c ≤ 60) : ∃ ws', MP.exec (X.sm (callM X fu (k + 1))) fu st14_2 (oE ns c s4 ws w6 held (.val (.int i)) (.val (.int rich)) j10 j11 j12 j13 j14) h = .nx (oE ns c s4 ws' w6 held (.val (.int i)) (.val (.int rich)) j10 j11 j12 j13 j14) h ∧ InR c ws' := by
  unfold st14_2
  by_cases z : (rich.fdiv 3).fmod 3 = 0
  · obtain ⟨ws', e, hw'⟩ := wishing fu k (rich.fdiv 9) c ws h hw hc hc2
    exact ⟨ws', by simp [eq_ii, z, e], hw'⟩
  · exact ⟨ws, by simp [eq_ii, z], hw⟩
theorem s3_ok (hw : InR c ws) (hc : 0 < c) (hc2 : c ≤ 60) (hr : s.rw.length ≤ 900) : ∃ ws' s' s4', MP.exec (X.sm (callM X fu (k + 1))) fu st14_3 (oE ns c s4 ws w6 held (.val (.int i)) (.val (.int rich)) j10 j11 j12 j13 j14) [tO s, dO s] = .nx (oE ns c s4' ws' w6 held (.val (.int i)) (.val (.int rich)) j10 j11 j12 j13 j14) [tO s', dO s'] ∧ InR c ws' ∧ (s' = s ∨ ∃ n, s' = leaveL s n) := by
  have cb2 : ¬ c = 0 ∧ (-1073741824 : Int) < c ∧ (c : Int) < 1073741824 := by omega
  have hwl := hw.len
  have c4 : ws.length ≤ 16777216 := by omega
  unfold st14_3
  by_cases z : (rich.fdiv 7).fmod 11 = 0
  · refine ⟨ws.filter fun n => !decide (n = (rich.fdiv 77).fmod c), leaveL s ((rich.fdiv 77).fmod c), .val (.int ((rich.fdiv 77).fmod c)), ?_, hw.filter _, .inr ⟨_, rfl⟩⟩
    have l1 := leave fu k s ((rich.fdiv 77).fmod c) (dO s) hr
    have l2 := turn_leave fu k (tO (leaveL s ((rich.fdiv 77).fmod c))) s ((rich.fdiv 77).fmod c) hr
    have cl : clsD (.ref 0) [tO s, dO s] = some 0 := rfl
    simp [eq_ii, ne_ii, z, cb2, c4, l1, l2, cl]
  · exact ⟨ws, s, s4, by simp [eq_ii, z], hw, .inl rfl⟩
abbrev fG (rich : Int) (c : Nat) : List (Int × Int) := (rg c).map fun n => (n, (rich.fdiv (5 + n)).fmod 4)
theorem s4_ok (h : MH) (hc2 : c ≤ 60) : MP.exec (X.sm (callM X fu (k + 1))) fu st14_4 (oE ns c s4 ws w6 held (.val (.int i)) (.val (.int rich)) j10 j11 j12 j13 j14) h = .nx (oE ns c s4 ws w6 held (.val (.int i)) (.val (.int rich)) j10 (.val (.dic (dkv (fG rich c)))) j12 j13 j14) h := by
  have cb : (-4611686018427387904 : Int) ≤ c ∧ (c : Int) < 4611686018427387904 := by omega
  have c3 : c ≤ 16777216 := by omega
  have hd := dict_of (v := fun n => .int ((rich.fdiv (5 + n)).fmod 4)) (ns := rg c) (asc_nodup (rg_inr c).1)
  have e : (rg c).map (fun n => D.tup [.int n, .int ((rich.fdiv (5 + n)).fmod 4)]) = (List.range c).map fun i => D.tup [.int (i : Nat), .int ((rich.fdiv (5 + (i : Nat))).fmod 4)] := by
    unfold rg
    rw [List.map_map]
    rfl
  rw [e] at hd
  have hm : ∀ b, ev (X.sm (callM X fu (k + 1))) cm14_3 b (oE ns c s4 ws w6 held (.val (.int i)) (.val (.int rich)) j10 j11 j12 j13 j14) h = .ok (.lst ((List.range c).map fun i => D.tup [.int (i : Nat), .int ((rich.fdiv (5 + (i : Nat))).fmod 4)])) h := fun b => by
    refine ev_mapM (xs := List.range c) (enc := fun i => D.int (i : Nat)) _ (by simp [cb]) (by simpa using c3) fun i hi => ?_
    have := List.mem_range.mp hi
    have hk : ¬ 5 + (i : Int) = 0 ∧ -1073741824 < 5 + (i : Int) ∧ 5 + (i : Int) < 1073741824 := by omega
    simp [hk]
  unfold st14_4
  rw [x_set, r_bi, rs_cons, hm]
  simp [hd]
abbrev cG (rich : Int) (c : Nat) : Int → Int := gv (fG rich c)
theorem s5_ok (hw : InR c ws) (hc2 : c ≤ 60) : MP.exec (X.sm (callM X fu (k + 2))) fu st14_5 (oE ns c s4 ws w6 held (.val (.int i)) (.val (.int rich)) j10 (.val (.dic (dkv (fG rich c)))) j12 j13 j14) [tO s, dO s] = .nx (oE ns c s4 ws w6 held (.val (.int i)) (.val (.int rich)) j10 (.val (.dic (dkv (fG rich c)))) (.val (oi (stepL s ws (cG rich c)).2)) j13 j14) [tO (stepL s ws (cG rich c)).1, dO s] := by
  have hwl := hw.len
  have st := step fu k s ws (fG rich c) (dO s) (by omega) hw.1
  have cl : clsD (.ref 0) [tO s, dO s] = some 0 := rfl
  have kd := kinds_dkv (fG rich c)
  unfold st14_5
  generalize hG : fG rich c = G at *
  simp [-List.map_cons, cl, biD, kd, st]
  subst hG
  exact ⟨rfl, rfl⟩
theorem s6_ok (t : MObj) (hw : InR c ws) (hc2 : c ≤ 60) (hf : ws.length < fu) : MP.exec (X.sm (callM X fu (k + 2))) fu st14_6 (oE ns c s4 ws w6 held (.val (.int i)) (.val (.int rich)) j10 (.val (.dic (dkv (fG rich c)))) j12 j13 j14) [t, dO s] = .nx (oE ns c s4 ws w6 held (.val (.int i)) (.val (.int rich)) j10 (.val (.dic (dkv (fG rich c)))) j12 (.val (oi (stepL s ws (cG rich c)).2)) j14) [t, dO (stepL s ws (cG rich c)).1] := by
  have hwl := hw.len
  have st := turn_step fu k s ws (fG rich c) t hf (by omega)
  unfold st14_6
  generalize hG : fG rich c = G at *
  simp [-List.map_cons, st]
  subst hG
  exact ⟨rfl, rfl⟩
theorem ne_bb (a : Bool) : cmpD .ne (.bl a) (.bl a) = some false := by cases a <;> decide +kernel
theorem isi_oi (a : Int) : biD .isi [oi (some a), .ty "int"] = some (.bl true) := by
  show (isiB "int" "int").map D.bl = _
  simp [isiB]
theorem isi_lst (xs : List D) : biD .isi [.lst xs, .ty "list"] = some (.bl true) := by
  show (isiB "list" "list").map D.bl = _
  simp [isiB]
variable (dealt : Option Int)
theorem s7_ok (j11 : Sl) (h : MH) : MP.exec (X.sm (callM X fu k)) fu st14_7 (oE ns c s4 ws w6 held (.val (.int i)) (.val (.int rich)) j10 j11 (.val (oi dealt)) (.val (oi dealt)) j14) h = .nx (oE ns c s4 ws w6 held (.val (.int i)) (.val (.int rich)) j10 j11 (.val (oi dealt)) (.val (oi dealt)) j14) h := by
  unfold st14_7
  cases dealt with
  | none => simp [ne_bb]
  | some a => simp [ne_bb, isi_oi]
theorem s8_ok (j11 : Sl) (hr : s.rw.length ≤ 900) : MP.exec (X.sm (callM X fu (k + 1))) fu st14_8 (oE ns c s4 ws w6 held (.val (.int i)) (.val (.int rich)) j10 j11 (.val (oi dealt)) (.val (oi dealt)) j14) [tO s, dO s] = .nx (oE ns c s4 ws w6 held (.val (.int i)) (.val (.int rich)) j10 j11 (.val (oi dealt)) (.val (oi dealt)) j14) [tO s, dO s] := by
  have l1 := served fu k s (dO s) hr
  have l2 := law_served fu k s (tO s) hr
  have cl : clsD (.ref 0) [tO s, dO s] = some 0 := rfl
  unfold st14_8
  simp [cl, l1, l2, ne_oo, ne_ll, isi_lst]
theorem s9_ok (j11 j13 : Sl) (h : MH) : MP.exec (X.sm (callM X fu k)) fu st14_9 (oE ns c s4 ws w6 held (.val (.int i)) (.val (.int rich)) j10 j11 (.val (oi dealt)) j13 j14) h = .nx (oE ns c s4 ws w6 (newH dealt held) (.val (.int i)) (.val (.int rich)) j10 j11 (.val (oi dealt)) j13 j14) h := by
  unfold st14_9
  cases dealt with
  | none => simp [newH]
  | some a => simp [newH]
theorem s10_ok (j11 j13 : Sl) (hr : s.rw.length ≤ 900) : MP.exec (X.sm (callM X fu (k + 1))) fu st14_10 (oE ns c s4 ws w6 held (.val (.int i)) (.val (.int rich)) j10 j11 (.val (oi dealt)) j13 j14) [tO s, dO s] = .nx (oE ns c s4 ws w6 held (.val (.int i)) (.val (.int rich)) j10 j11 (.val (oi dealt)) j13 (.val (.lst (di (servL s))))) [tO s, dO s] := by
  have l1 := served fu k s (dO s) hr
  have cl : clsD (.ref 0) [tO s, dO s] = some 0 := rfl
  unfold st14_10
  simp [cl, l1]
theorem s11_ok (j11 j13 : Sl) (h : MH) (h1 : (servL s).length ≤ 3) (h2 : 0 < (servL s).length → held ≤ 5) : MP.exec (X.sm (callM X fu (k + 1))) fu st14_11 (oE ns c s4 ws w6 held (.val (.int i)) (.val (.int rich)) j10 j11 (.val (oi dealt)) j13 (.val (.lst (di (servL s))))) h = .nx (oE ns c s4 ws w6 held (.val (.int i)) (.val (.int rich)) j10 j11 (.val (oi dealt)) j13 (.val (.lst (di (servL s))))) h := by
  unfold st14_11
  have e1 : ¬ (3 < (servL s).length) := by omega
  have e2 : (servL s).length ≤ 16777216 := by omega
  have e3 : ¬ (0 < (servL s).length ∧ 5 < held) := fun z => by have := h2 z.1; omega
  have e4 : biD .len [.lst (di (servL s))] = some (.int (servL s).length) := by simp [biD]
  simp [e4]
  exact ⟨by omega, h2⟩
end
end K67

set_option Elab.async false
set_option linter.all false
set_option maxRecDepth 100000
set_option maxHeartbeats 4000000
namespace K67
open MP
structure OI (c i : Nat) (s : TS) (ws : List Int) (G : List (Int × Int)) (held : Int) : Prop where
  inv : Inv c s held (gv G)
  ws : InR c ws
  len : G.length ≤ 60 * i
def oL (ns : List Int) (c : Nat) (i : Nat) (e : MEnv) (h : MH) : Prop := ∃ s4 ws G held j8 j9 j10 j11 j12 j13 j14 s, e = oE ns c s4 ws (.od (dkv G)) held j8 j9 j10 j11 j12 j13 j14 ∧ h = [tO s, dO s] ∧ OI c i s ws G held
theorem inv_leave {c : Nat} {s s' : TS} {held : Int} {W : Int → Int} (I : Inv c s held W) (e : s' = s ∨ ∃ n, s' = leaveL s n) : Inv c s' held W := by
  rcases e with rfl | ⟨n, rfl⟩
  · exact I
  · exact leave_inv I n
theorem body_ok (fu k : Nat) (ns : List Int) (c i : Nat) (hc : 0 < c) (hc2 : c ≤ 60) (hi : i < 90) (hf : 60 < fu) (e : MEnv) (h : MH) (p : oL ns c i e h) :
    ∃ e1 h1, (forB (X.sm (callM X fu (k + 2))) fu (.name 8) bk14_2 (.int i) e h = .nx e1 h1 ∨ forB (X.sm (callM X fu (k + 2))) fu (.name 8) bk14_2 (.int i) e h = .cnt e1 h1) ∧ oL ns c (i + 1) e1 h1 := by
  obtain ⟨s4, ws, G, held, j8, j9, j10, j11, j12, j13, j14, s, rfl, rfl, hI, hW, hG⟩ := p
  obtain ⟨rich, a1⟩ := s1_ok fu (k + 1) ns c s4 ws (.od (dkv G)) held j9 j10 j11 j12 j13 j14 i [tO s, dO s]
  obtain ⟨ws2, a2, hW2⟩ := s2_ok fu (k + 1) ns c s4 ws (.od (dkv G)) held j10 j11 j12 j13 j14 i rich [tO s, dO s] hW hc hc2
  obtain ⟨ws3, s3, s43, a3, hW3, hs3⟩ := s3_ok fu (k + 1) ns c s4 ws2 (.od (dkv G)) held j10 j11 j12 j13 j14 i rich s hW2 hc hc2 (by have := hI.rw; omega)
  have hI3 := inv_leave hI hs3
  have a4 := s4_ok fu (k + 1) ns c s43 ws3 (.od (dkv G)) held j10 j11 j12 j13 j14 i rich [tO s3, dO s3] hc2
  have a5 := s5_ok fu k ns c s43 ws3 (.od (dkv G)) held j10 j12 j13 j14 i rich s3 hW3 hc2
  have hl3 := hW3.len
  have a6 := s6_ok fu k ns c s43 ws3 (.od (dkv G)) held j10 (.val (oi (stepL s3 ws3 (cG rich c)).2)) j13 j14 i rich s3 (tO (stepL s3 ws3 (cG rich c)).1) hW3 hc2 (by omega)
  obtain ⟨hI4, hN⟩ := step_inv hc hI3 hW3 (cG rich c)
  have sv := served_ok hI4 hN
  generalize hd : (stepL s3 ws3 (cG rich c)).2 = dealt at *
  generalize hs : (stepL s3 ws3 (cG rich c)).1 = s' at *
  generalize (Sl.val (.dic (dkv (fG rich c)))) = j11' at *
  have hr : s'.rw.length ≤ 900 := by have := hI4.rw; omega
  have a7 := s7_ok fu (k + 2) ns c s43 ws3 (.od (dkv G)) held j10 j14 i rich dealt j11' [tO s', dO s']
  have a8 := s8_ok fu (k + 1) ns c s43 ws3 (.od (dkv G)) held j10 j14 i rich s' dealt j11' hr
  have a9 := s9_ok fu (k + 2) ns c s43 ws3 (.od (dkv G)) held j10 j14 i rich dealt j11' (.val (oi dealt)) [tO s', dO s']
  have a10 := s10_ok fu (k + 1) ns c s43 ws3 (.od (dkv G)) (newH dealt held) j10 j14 i rich s' dealt j11' (.val (oi dealt)) hr
  have a11 := s11_ok fu (k + 1) ns c s43 ws3 (.od (dkv G)) (newH dealt held) j10 i rich s' dealt j11' (.val (oi dealt)) [tO s', dO s'] sv.1 sv.2
  obtain ⟨s44, G', a12, hl, hg⟩ := inner_all (X.sm (callM X fu (k + 2))) fu ns c s43 ws3 G (newH dealt held) (.val (.int i)) (.val (.int rich)) j10 j11' (.val (oi dealt)) (.val (.lst (di (servL s')))) dealt [tO s', dO s'] (by omega) (fun n hn => by
    have := hI4.w n (by omega) (by omega)
    have d := dist_lt hc s'.la n
    have := hI4.le
    omega)
  refine ⟨oE ns c s44 ws3 (.od (dkv G')) (newH dealt held) (.val (.int i)) (.val (.int rich)) j10 j11' (.val (oi dealt)) (.val (oi dealt)) (.val (.lst (di (servL s')))), [tO s', dO s'], .inl ?_, s44, ws3, G', newH dealt held, _, _, _, _, _, _, _, s', rfl, rfl, ?_, hW3, by omega⟩
  · rw [r_forB]
    simp only [asg_name, List.length_cons, List.length_nil, Nat.reduceAdd, Nat.reduceLT, if_true, List.set_cons_succ, List.set_cons_zero]
    simp only [bk14_2, xb_cons, a1, a2, a3, a4, a5, a6, a7, a8, a9, a10, a11, a12, then_nx, xb_nil]
  · obtain ⟨h1, h2, h3, h4, h5⟩ := hI4
    refine ⟨h1, h2, h3, h4, fun n hn1 hn2 => ?_⟩
    have e := hg n.toNat (by omega)
    rw [show ((n.toNat : Nat) : Int) = n by omega] at e
    rw [e]
    exact h5 n hn1 hn2
theorem init_ok (fu k : Nat) : callM X fu (k + 1) 2 [.ref 0] [.ins 0 [.un, .un, .un, .un]] = .ok .non [tO ⟨none, none, 0, []⟩] := by
  rw [call_eq (c := c2) rfl rfl]
  show endR (execB (X.sm (callM X fu k)) fu b2 [.val (.ref 0)] [.ins 0 [.un, .un, .un, .un]]) = _
  unfold b2
  simp [setfS]
  rfl
theorem main_ok (ns : List Int) (hl : ns.length ≤ 63) (fu k : Nat) (hf : 100 < fu) : ∃ h', callM X fu (k + 3) 14 [.rol (ns.map .int)] [] = .ok (.bl true) h' := by
  rw [call_eq (c := c14) rfl rfl]
  show ∃ h', endR (execB (X.sm (callM X fu (k + 2))) fu b14 [.val (.rol (di ns)), .un, .un, .un, .un, .un, .un, .un, .un, .un, .un, .un, .un, .un, .un] []) = _
  obtain ⟨c, hc, hc2, ec⟩ : ∃ c : Nat, 0 < c ∧ c ≤ 60 ∧ 7 + (ns.getD 0 0).fmod 54 = (c : Int) := by
    have := fmod_rg (ns.getD 0 0) (c := 54) (by omega)
    exact ⟨(7 + (ns.getD 0 0).fmod 54).toNat, by omega, by omega, by omega⟩
  have cb : (-4611686018427387904 : Int) ≤ c ∧ (c : Int) < 4611686018427387904 := by omega
  have c3 : c ≤ 16777216 := by omega
  obtain ⟨m, hm, em⟩ : ∃ m : Nat, m ≤ 90 ∧ (if (if 2 * (ns.length : Int) < 90 then 2 * (ns.length : Int) else 90) > 30 then (if 2 * (ns.length : Int) < 90 then 2 * (ns.length : Int) else 90) else 30) = (m : Int) := by
    refine ⟨(if (if 2 * (ns.length : Int) < 90 then 2 * (ns.length : Int) else 90) > 30 then (if 2 * (ns.length : Int) < 90 then 2 * (ns.length : Int) else 90) else 30).toNat, ?_, ?_⟩ <;> (split <;> split <;> omega)
  have mb : (-4611686018427387904 : Int) ≤ m ∧ (m : Int) < 4611686018427387904 := by omega
  have l0 : ∀ h, callM X fu (k + 2) 6 [.rol (di ns), .int 0] h = .ok (.int (ns.getD 0 0)) h := fun h => law_cell fu (k + 1) ns 0 h
  have l1 := init_ok fu (k + 1)
  have md : mergeD [] (kv .non .non (.int 0) (.lst [])) = kv .non .non (.int 0) (.lst []) := rfl
  have rgm : (List.range c).map (fun x => D.int (x : Nat)) = di (rg c) := by
    unfold rg di
    rw [List.map_map]
    rfl
  have md0 : mergeD [] [] = [] := rfl
  have a1 : MP.exec (X.sm (callM X fu (k + 2))) fu st14_13 [.val (.rol (di ns)), .un, .un, .un, .un, .un, .un, .un, .un, .un, .un, .un, .un, .un, .un] [] = .nx [.val (.rol (di ns)), .val (.ref 0), .un, .un, .un, .un, .un, .un, .un, .un, .un, .un, .un, .un, .un] [tO ⟨none, none, 0, []⟩] := by
    unfold st14_13
    simp [l1]
  have a2 : ∀ t, MP.exec (X.sm (callM X fu (k + 2))) fu st14_14 [.val (.rol (di ns)), .val (.ref 0), .un, .un, .un, .un, .un, .un, .un, .un, .un, .un, .un, .un, .un] [t] = .nx [.val (.rol (di ns)), .val (.ref 0), .val (.ref 1), .un, .un, .un, .un, .un, .un, .un, .un, .un, .un, .un, .un] [t, dO ⟨none, none, 0, []⟩] := fun t => by
    unfold st14_14
    simp [md, dO_eq]
    rfl
  have a3 : ∀ h, MP.exec (X.sm (callM X fu (k + 2))) fu st14_15 [.val (.rol (di ns)), .val (.ref 0), .val (.ref 1), .un, .un, .un, .un, .un, .un, .un, .un, .un, .un, .un, .un] h = .nx [.val (.rol (di ns)), .val (.ref 0), .val (.ref 1), .val (.int c), .un, .un, .un, .un, .un, .un, .un, .un, .un, .un, .un] h := fun h => by
    unfold st14_15
    simp [l0]
    rw [← ec]
    simp
  have a4 : ∀ h, MP.exec (X.sm (callM X fu (k + 2))) fu st14_16 [.val (.rol (di ns)), .val (.ref 0), .val (.ref 1), .val (.int c), .un, .un, .un, .un, .un, .un, .un, .un, .un, .un, .un] h = .nx [.val (.rol (di ns)), .val (.ref 0), .val (.ref 1), .val (.int c), .un, .val (.lst (di (rg c))), .un, .un, .un, .un, .un, .un, .un, .un, .un] h := fun h => by
    unfold st14_16
    simp [cb, c3]
    exact rgm
  have a5 : ∀ h, MP.exec (X.sm (callM X fu (k + 2))) fu st14_17 [.val (.rol (di ns)), .val (.ref 0), .val (.ref 1), .val (.int c), .un, .val (.lst (di (rg c))), .un, .un, .un, .un, .un, .un, .un, .un, .un] h = .nx [.val (.rol (di ns)), .val (.ref 0), .val (.ref 1), .val (.int c), .un, .val (.lst (di (rg c))), .od (dkv []), .un, .un, .un, .un, .un, .un, .un, .un] h := fun h => by
    unfold st14_17
    simp [md0]
  have a6 : ∀ h, MP.exec (X.sm (callM X fu (k + 2))) fu st14_18 [.val (.rol (di ns)), .val (.ref 0), .val (.ref 1), .val (.int c), .un, .val (.lst (di (rg c))), .od (dkv []), .un, .un, .un, .un, .un, .un, .un, .un] h = .nx (oE ns c .un (rg c) (.od (dkv [])) 0 .un .un .un .un .un .un .un) h := fun h => by
    unfold st14_18
    simp
  obtain ⟨e1, h1, q1, q2⟩ := loopF_inv (f := forB (X.sm (callM X fu (k + 2))) fu (.name 8) bk14_2) (g := fun i : Nat => D.int i) (oL ns c) (List.range m) 0 (oE ns c .un (rg c) (.od (dkv [])) 0 .un .un .un .un .un .un .un) [tO ⟨none, none, 0, []⟩, dO ⟨none, none, 0, []⟩]
    ⟨_, _, _, _, _, _, _, _, _, _, _, _, rfl, rfl, ⟨fun a e => (nomatch e), fun a e => (nomatch e), by simp, by simp, fun n hn1 hn2 => by
      have d := dist_lt hc none n
      have : gv [] n = 0 := rfl
      rw [this]
      dsimp only
      omega⟩, rg_inr c, by simp⟩ (fun j x e h hx p => by
      obtain ⟨a1, a2⟩ := List.getElem?_eq_some_iff.mp hx
      simp at a1 a2
      subst a2
      rw [Nat.zero_add] at *
      exact body_ok fu k ns c j hc hc2 (by omega) (by omega) e h p)
  have a7 : MP.exec (X.sm (callM X fu (k + 2))) fu st14_19 (oE ns c .un (rg c) (.od (dkv [])) 0 .un .un .un .un .un .un .un) [tO ⟨none, none, 0, []⟩, dO ⟨none, none, 0, []⟩] = .nx e1 h1 := by
    have n1 : biD .len [.rol (di ns)] = some (.int ns.length) := by simp [biD]
    have n2 : ∀ i j, biD .min2 [.int i, .int j] = some (.int (if j < i then j else i)) := fun i j => rfl
    have n3 : ∀ i j, biD .max2 [.int i, .int j] = some (.int (if j > i then j else i)) := fun i j => rfl
    unfold st14_19
    rw [x_for, ri_rng1]
    simp only [r_bi, rs_cons, rs_nil, r_int, r_bin, r_var, List.getElem?_cons_zero, get_val, view_ro, ofO_some, ok_bind, n1, bin_mul]
    simp only [show ((-18446744073709551616 : Int) < 2 ∧ (2 : Int) < 18446744073709551616 ∨ (-18446744073709551616 : Int) < (ns.length : Int) ∧ (ns.length : Int) < 18446744073709551616) = True from by simp, if_true, ofO_some, ok_bind, n2, n3, em, mb, and_self, ok_bindS, Int.toNat_natCast]
    exact q1
  refine ⟨h1, ?_⟩
  have a8 : MP.exec (X.sm (callM X fu (k + 2))) fu st14_20 e1 h1 = .ret (.bl true) h1 := by
    unfold st14_20
    simp
  simp only [b14, xb_cons, a1, a2, a3, a4, a5, a6, a7, a8, then_nx, then_ret, endR_ret]
end K67

set_option Elab.async false
set_option linter.all false
set_option maxRecDepth 100000
set_option maxHeartbeats 0
namespace K67
open PySem PySem.Spec PyProof.Rows MP
theorem tab_ok : okTab Γ ci = true := by decide +kernel
theorem code_ok : okCode Γ pf code fn = true := by decide +kernel
theorem sc0 : L2.FnScope c0.N (Γ.fn 0).ps d0.scope := ⟨rfl, rfl, rfl, by decide +kernel, rfl, by decide +kernel, by decide +kernel⟩
theorem ck0 : chkB Γ c0.N c0.body d0.scope d0.body = true := by decide +kernel
theorem sc1 : L2.FnScope c1.N (Γ.fn 1).ps d1.scope := ⟨rfl, rfl, rfl, by decide +kernel, rfl, by decide +kernel, by decide +kernel⟩
theorem ck1 : chkB Γ c1.N c1.body d1.scope d1.body = true := by decide +kernel
theorem sc2 : L2.FnScope c2.N (Γ.fn 2).ps d2.scope := ⟨rfl, rfl, rfl, by decide +kernel, rfl, by decide +kernel, by decide +kernel⟩
theorem ck2 : chkB Γ c2.N c2.body d2.scope d2.body = true := by decide +kernel
theorem sc3 : L2.FnScope c3.N (Γ.fn 3).ps d3.scope := ⟨rfl, rfl, rfl, by decide +kernel, rfl, by decide +kernel, by decide +kernel⟩
theorem ck3 : chkB Γ c3.N c3.body d3.scope d3.body = true := by decide +kernel
theorem sc4 : L2.FnScope c4.N (Γ.fn 4).ps d4.scope := ⟨rfl, rfl, rfl, by decide +kernel, rfl, by decide +kernel, by decide +kernel⟩
theorem ck4 : chkB Γ c4.N c4.body d4.scope d4.body = true := by decide +kernel
theorem sc5 : L2.FnScope c5.N (Γ.fn 5).ps d5.scope := ⟨rfl, rfl, rfl, by decide +kernel, rfl, by decide +kernel, by decide +kernel⟩
theorem ck5 : chkB Γ c5.N c5.body d5.scope d5.body = true := by decide +kernel
theorem sc6 : L2.FnScope c6.N (Γ.fn 6).ps d6.scope := ⟨rfl, rfl, rfl, by decide +kernel, rfl, by decide +kernel, by decide +kernel⟩
theorem ck6 : chkB Γ c6.N c6.body d6.scope d6.body = true := by decide +kernel
theorem sc7 : L2.FnScope c7.N (Γ.fn 7).ps d7.scope := ⟨rfl, rfl, rfl, by decide +kernel, rfl, by decide +kernel, by decide +kernel⟩
theorem ck7 : chkB Γ c7.N c7.body d7.scope d7.body = true := by decide +kernel
theorem sc8 : L2.FnScope c8.N (Γ.fn 8).ps d8.scope := ⟨rfl, rfl, rfl, by decide +kernel, rfl, by decide +kernel, by decide +kernel⟩
theorem ck8 : chkB Γ c8.N c8.body d8.scope d8.body = true := by decide +kernel
theorem sc9 : L2.FnScope c9.N (Γ.fn 9).ps d9.scope := ⟨rfl, rfl, rfl, by decide +kernel, rfl, by decide +kernel, by decide +kernel⟩
theorem ck9 : chkB Γ c9.N c9.body d9.scope d9.body = true := by decide +kernel
theorem sc10 : L2.FnScope c10.N (Γ.fn 10).ps d10.scope := ⟨rfl, rfl, rfl, by decide +kernel, rfl, by decide +kernel, by decide +kernel⟩
theorem ck10 : chkB Γ c10.N c10.body d10.scope d10.body = true := by decide +kernel
theorem sc11 : L2.FnScope c11.N (Γ.fn 11).ps d11.scope := ⟨rfl, rfl, rfl, by decide +kernel, rfl, by decide +kernel, by decide +kernel⟩
theorem ck11 : chkB Γ c11.N c11.body d11.scope d11.body = true := by decide +kernel
theorem sc12 : L2.FnScope c12.N (Γ.fn 12).ps d12.scope := ⟨rfl, rfl, rfl, by decide +kernel, rfl, by decide +kernel, by decide +kernel⟩
theorem ck12 : chkB Γ c12.N c12.body d12.scope d12.body = true := by decide +kernel
theorem sc13 : L2.FnScope c13.N (Γ.fn 13).ps d13.scope := ⟨rfl, rfl, rfl, by decide +kernel, rfl, by decide +kernel, by decide +kernel⟩
theorem ck13 : chkB Γ c13.N c13.body d13.scope d13.body = true := by decide +kernel
theorem sc14 : L2.FnScope c14.N (Γ.fn 14).ps d14.scope := ⟨rfl, rfl, rfl, by decide +kernel, rfl, by decide +kernel, by decide +kernel⟩
theorem ck14 : chkB Γ c14.N c14.body d14.scope d14.body = true := by decide +kernel
theorem def_ok : ∀ g d cc, fn[g]? = some d → code g = some cc → L2.FnScope cc.N (Γ.fn g).ps d.scope ∧ chkB Γ cc.N cc.body d.scope d.body = true := by
  intro g d cc e e2
  match g, e, e2 with
  | 0, e, e2 => cases e; cases e2; exact ⟨sc0, ck0⟩
  | 1, e, e2 => cases e; cases e2; exact ⟨sc1, ck1⟩
  | 2, e, e2 => cases e; cases e2; exact ⟨sc2, ck2⟩
  | 3, e, e2 => cases e; cases e2; exact ⟨sc3, ck3⟩
  | 4, e, e2 => cases e; cases e2; exact ⟨sc4, ck4⟩
  | 5, e, e2 => cases e; cases e2; exact ⟨sc5, ck5⟩
  | 6, e, e2 => cases e; cases e2; exact ⟨sc6, ck6⟩
  | 7, e, e2 => cases e; cases e2; exact ⟨sc7, ck7⟩
  | 8, e, e2 => cases e; cases e2; exact ⟨sc8, ck8⟩
  | 9, e, e2 => cases e; cases e2; exact ⟨sc9, ck9⟩
  | 10, e, e2 => cases e; cases e2; exact ⟨sc10, ck10⟩
  | 11, e, e2 => cases e; cases e2; exact ⟨sc11, ck11⟩
  | 12, e, e2 => cases e; cases e2; exact ⟨sc12, ck12⟩
  | 13, e, e2 => cases e; cases e2; exact ⟨sc13, ck13⟩
  | 14, e, e2 => cases e; cases e2; exact ⟨sc14, ck14⟩
  | g + 15, e, e2 => cases e
theorem bd_ok {K : PySem.W.Frag} : ∀ g d fd, fn[g]? = some d → L2.FunD K d.name d.qual d.params d.body d.scope (d.dvs K) (d.kws K) (He.fAd K d.at_) fd → ∀ n, n ≤ (Γ.fn g).ps.length → ∃ ds, L2.Vals (dvV g n) ds ∧ L2.Binds K fd (Γ.fn g).ps ds := by
  intro g d fd e F n hn
  match g, e with
  | 0, e => cases e; exact ⟨[], .nil, L2.FunD.bindsN (ps := (Γ.fn 0).ps) F fun _ _ _ _ _ _ us hl => match us, hl with | [_, _], _ => rfl⟩
  | 1, e => cases e; exact ⟨[], .nil, L2.FunD.bindsN (ps := (Γ.fn 1).ps) F fun _ _ _ _ _ _ us hl => match us, hl with | [_, _], _ => rfl⟩
  | 2, e => cases e; exact ⟨[], .nil, L2.FunD.bindsN (ps := (Γ.fn 2).ps) F fun _ _ _ _ _ _ us hl => match us, hl with | [_], _ => rfl⟩
  | 3, e => cases e; exact ⟨[], .nil, L2.FunD.bindsN (ps := (Γ.fn 3).ps) F fun _ _ _ _ _ _ us hl => match us, hl with | [_, _, _], _ => rfl⟩
  | 4, e => cases e; exact ⟨[], .nil, L2.FunD.bindsN (ps := (Γ.fn 4).ps) F fun _ _ _ _ _ _ us hl => match us, hl with | [_, _], _ => rfl⟩
  | 5, e => cases e; exact ⟨[], .nil, L2.FunD.bindsN (ps := (Γ.fn 5).ps) F fun _ _ _ _ _ _ us hl => match us, hl with | [_], _ => rfl⟩
  | 6, e => cases e; exact ⟨[], .nil, L2.FunD.bindsN (ps := (Γ.fn 6).ps) F fun _ _ _ _ _ _ us hl => match us, hl with | [_, _], _ => rfl⟩
  | 7, e => cases e; exact ⟨[], .nil, L2.FunD.bindsN (ps := (Γ.fn 7).ps) F fun _ _ _ _ _ _ us hl => match us, hl with | [_, _], _ => rfl⟩
  | 8, e => cases e; exact ⟨[], .nil, L2.FunD.bindsN (ps := (Γ.fn 8).ps) F fun _ _ _ _ _ _ us hl => match us, hl with | [_, _], _ => rfl⟩
  | 9, e => cases e; exact ⟨[], .nil, L2.FunD.bindsN (ps := (Γ.fn 9).ps) F fun _ _ _ _ _ _ us hl => match us, hl with | [_, _], _ => rfl⟩
  | 10, e => cases e; exact ⟨[], .nil, L2.FunD.bindsN (ps := (Γ.fn 10).ps) F fun _ _ _ _ _ _ us hl => match us, hl with | [_, _, _], _ => rfl⟩
  | 11, e => cases e; exact ⟨[], .nil, L2.FunD.bindsN (ps := (Γ.fn 11).ps) F fun _ _ _ _ _ _ us hl => match us, hl with | [_, _], _ => rfl⟩
  | 12, e => cases e; exact ⟨[], .nil, L2.FunD.bindsN (ps := (Γ.fn 12).ps) F fun _ _ _ _ _ _ us hl => match us, hl with | [_], _ => rfl⟩
  | 13, e => cases e; exact ⟨[], .nil, L2.FunD.bindsN (ps := (Γ.fn 13).ps) F fun _ _ _ _ _ _ us hl => match us, hl with | [_, _, _], _ => rfl⟩
  | 14, e => cases e; exact ⟨[], .nil, L2.FunD.bindsN (ps := (Γ.fn 14).ps) F fun _ _ _ _ _ _ us hl => match us, hl with | [_], _ => rfl⟩
  | g + 15, e => cases e
def names0 : List PySem.Str := ["TURN", "REWARDS", "next_of", "best", "Turns", "_law_cell", "_law_rich", "_law_next", "_law_best", "_law_turn_step", "_law_turn_leave", "_law_served", "_law_wishing"]
def names : List PySem.Str := names0
abbrev R : PySem.W.OpenRow := PySem.W.OpenLaw.row PySem.Challenge.rw_anyenough_k67_whole_turns_of_many_neighb
abbrev qv : PySem.Program := PySem.W.view R.prog [15]
def fa : List He.Fa := mkFa Γ ci
abbrev hk : PySem.W.Hook := He.hookD 6 fa fn
def ob (s : PySem.W.SharedT) : He.AlD := He.obsDG 6 fa fn (HandSHeadRun.getT s)
theorem ob_eq (s : PySem.W.SharedT) : ob s = hk.obs s.abs := He.obsDG_eq (HandSHeadRun.getT_eq s)
theorem run (w : World) : HandSHeadRun.RunEq R qv hk ob 3000 names w := by
  intro os
  kernel_rfl
end K67

set_option Elab.async false
set_option linter.all false
set_option maxRecDepth 100000
set_option maxHeartbeats 0
namespace K67
open MP
def fu : Nat := 1000
theorem main : ∀ ns : List Int, ns.length ≤ 63 → ∃ h', callM X fu 12 14 [.rol (ns.map .int)] [] = .ok (.bl true) h' := fun ns hl => main_ok ns hl fu 9 (by decide)
end K67
open PySem PySem.W PySem.Calls PyProof.Rows
theorem PySem.Challenge.cw_anyenough_k67_whole_turns_of_many_neighb_holds : PySem.Challenge.rw_anyenough_k67_whole_turns_of_many_neighb.Holds := by
  w_on; o_law
  refine HandSHeadRun.head_any (r := OpenLaw.row PySem.Challenge.rw_anyenough_k67_whole_turns_of_many_neighb) (q := view (OpenLaw.row PySem.Challenge.rw_anyenough_k67_whole_turns_of_many_neighb).prog [15]) (H := K67.hk) (ob := K67.ob) (M := 3000) (loose := K67.names) (d := HandSHeadRun.topDef (OpenLaw.row PySem.Challenge.rw_anyenough_k67_whole_turns_of_many_neighb).prog 15) (kwd := []) K67.ob_eq
    (by kernel_rfl) (fun s => by kernel_rfl) K67.run (by kernel_rfl) (by kernel_rfl) (by kernel_rfl) (by rfl) (by first | assumption | decide +kernel) (by decide +kernel) ⟨rfl, rfl, rfl, rfl, rfl, by decide +kernel⟩ ?hw ?hc
  case hw => w_witness2
  case hc =>
    refine L2.walk_ofE (l := PySem.Challenge.rw_anyenough_k67_whole_turns_of_many_neighb) (n := 63) (k := 2 * 12) (x := "script") (CX := MP.CXa PySem.Challenge.rw_anyenough_k67_whole_turns_of_many_neighb.prog) rfl (by decide) (by kernel_rfl) ⟨rfl, by decide, by decide⟩ ?F (fun _ _ _ _ z => MP.cxa_no z)
    intro w mg fa h Y G hmg0
    obtain ⟨K, KX, c⟩ := Y
    have hmg : mg ("law" : PySem.Str) = some (.ref fa) := by
      have e : (HandSHeadRun.topDef (OpenLaw.row PySem.Challenge.rw_anyenough_k67_whole_turns_of_many_neighb).prog 15).name = ("law" : PySem.Str) := by kernel_rfl
      rw [← e]
      exact hmg0
    exact MP.end_of (L := 14) (fu := K67.fu) (k := 12) KX G (MP.tx_of KX G c K67.tab_ok K67.code_ok (fun _ _ _ _ _ _ _ => MP.Rps.nil) K67.def_ok K67.bd_ok) (by decide) rfl rfl (fun d fd e F => by
      cases e
      exact fun s u => L2.FunD.bindsA (ps := ["script"]) F (fun _ _ _ _ _ _ us hl => match us, hl with | [_], _ => rfl) s [u] rfl) hmg fun ns hl => K67.main ns hl
