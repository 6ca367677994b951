import PyProof.Rows.All
import Wide.All
import OpenK.AllK
import Wide.FinOn
import HandS.ForMost
import HandS.ForExc
import HandS.Zip
import HandS.SetTxt0
import HandS.Set
import HandS.SetFor
import HandS.TupSets
import KE.GoesMore
import KE.GoesZip
import HandS.HeadHook1
import HandS.HeadHook2
import HandS.ExcInit
import HandS.TryMany
import HandS.Wide
import HandS.Flow
import HandS.Comp
import HandS.Iter
import HandS.TupAny
import HandS.TupMul
import HandS.Deep
import HandS.Text
import HandS.Star
import HandS.Walk
import HandS.DictComp
import HandS.Defaults
import HandS.More
import HandS.RaiseMore
import HandS.WordsDict
import HandS.StrMore
import HandS.Replace
import HandS.IsInst
import HandS.Small
import HandS.ExcOwn
import HandS.ExcField
import KE.KExcIs
import HandS.SetBool
import PyProof.ReprRoads
import HandS.Ends
import HandS.HeadHook3
import HandS.HeadHook4
import PyProof.ExcBaseAll.ValueError
import HandS.HeadEnd
import HandS.Head0
import HandS.Head1
import HandS.Head2
import KE.KStateDown
import Lean
import PySem.Challenge.RW_furtherfile_k66_alike_refused
set_option Elab.async false
set_option linter.all false
set_option maxRecDepth 100000
/-! KtA: a name. -/
namespace EV
abbrev Fg := PySem.W.Frag
end EV
/-! SdV: rows of items drawn together (enumerate, zip) from lists and tuples. -/
namespace EV
open PySem PySem.Spec PyProof.Rows L2

/-- an iterator that hands out a new tuple at each turn; read: the rows as they stand -/
def ItT (read : Hp → List (List V) → Prop) : L2.It :=
  ⟨fun i H => ∃ rs r, read H rs ∧ rs[i]? = some r, fun i H v H' => ∃ T r, v = V.ref T ∧ H T = none ∧ H' = upd H T (.tup r) ∧ ∀ rs, read H rs → rs[i]? = some r, fun i H => ∃ rs, read H rs ∧ rs.length = i⟩
/-- what is asked of the rows' walk at a turn -/
def RowsW (P : Program) (w : World) (K : Fg) (read : Hp → List (List V) → Prop) (it : Addr) (wr : List Addr) (tn : Nat → Heap → Prop) : Prop :=
  ∀ (X : Cx) (pins : List (Addr × Obj)) (σ : L2.St) (H : Hp) (s : Shared) (i : Nat) (rs : List (List V)), X.prog = P → X.w = w → X.K = K → X.A.handled = none → Inv X pins σ H s → read H rs → tn i s.heap →
    ∃ fp Pt St Mid, WalksT P w X.A it fp wr rs.length Pt St Mid ∧ St i s.heap ∧ (∀ j h, St j h → tn j h) ∧ ∀ j vals, Pt j vals → ∃ r, rs[j]? = some r ∧ r.length ≤ sizeLine ∧ Vals r vals.toList
theorem turn_rows {P : Program} {w : World} {K : Fg} {elts : List Expr} {kk : Nat} {tpos : Pos} {it : Addr} {fs wr : List Addr} {read : Hp → List (List V) → Prop} {tn : Nat → Heap → Prop} (hm : it ∈ fs) (hwr : ∀ b ∈ wr, b ∈ fs)
    (obj : ∀ i h, tn i h → ∀ b ∈ fs, ∃ o, h.get? b = some o ∧ ∀ v, o.data ≠ .cell v) (keep : ∀ i h h', tn i h → (∀ b ∈ fs, ∀ o, h.get? b = some o → h'.get? b = some o) → tn i h')
    (inj : ∀ (X : Cx) (pins : List (Addr × Obj)) (σ : L2.St) (H : Hp) (s : Shared) (r1 r2 : List (List V)), X.K = K → Inv X pins σ H s → read H r1 → read H r2 → r1 = r2)
    (self : ∀ (A : Around) (i : Nat) (s : Shared) (Q : Value → Shared → Prop) (E : Value → Shared → Prop), tn i s.heap → Q (.ref it) s → wpAny (model P w) A (pyIter (.ref it)) Q E s)
    (hW : RowsW P w K read it wr tn) : Turn P w K (.Tuple elts kk tpos) (ItT read) fs it tn where
  mem := hm
  obj := obj
  keep := keep
  item := by
    intro X hP hw hK hc i pins s σ H E I hf st hg
    obtain ⟨rs, r0, hr, h0⟩ := hg
    obtain ⟨fp, Pt, St, Mid, W, hst, back, hPt⟩ := hW X pins σ H s i rs hP hw hK (I.ok.hd hc) I hr st
    have hlt : i < rs.length := (List.getElem?_eq_some_iff.mp h0).1
    refine W.item i s _ E hlt hst fun T vals h' tk pt hsz hT mid fr => ⟨_, rfl, W.go elts kk tpos i T _ _ E mid fun h'' st'' fr'' => ?_⟩
    obtain ⟨r, hr1, hl, hv⟩ := hPt i vals pt
    have ap := W.apart i T h' mid
    obtain ⟨o, g1, g2⟩ := hT
    have hT2 : IsTup h'' T vals.toList.toArray := ⟨o, fr'' T o ap g1, by simpa using g2⟩
    have new : ObjOk X.prog X.w (upd H T (.tup r)) h'' T (.tup r) := ⟨hl, vals.toList, hv, hT2⟩
    have I1 : Inv X pins σ (upd H T (.tup r)) { s with heap := h'', toks := tk } := I.turnedNew (ch := wr) (fun b ob hb q => fr'' b ob hb (fr b ob hb q)) (fun b hb => hf b (hwr b hb)) hsz new
    refine ⟨.ref T, _, I1, rfl, ⟨T, r, rfl, I.hok.fresh hsz, rfl, fun rs' hr' => ?_⟩, back _ _ st'', fun b hb => ?_⟩
    · rw [inj X pins σ H s rs' rs hK I hr' hr]
      exact hr1
    · obtain ⟨ob, hob, _⟩ := obj i s.heap st b hb
      have hlt := Heap.lt_size hob
      rw [upd_ne (fun z => by rw [z] at hlt; exact absurd (Nat.lt_of_lt_of_le hlt hsz) (Nat.lt_irrefl _))]
      exact (hf b hb).1
  done := by
    intro X hP hw hK hc i pins s σ H E I hf st hg
    obtain ⟨rs, hr, rfl⟩ := hg
    obtain ⟨fp, Pt, St, Mid, W, hst, back, hPt⟩ := hW X pins σ H s _ rs hP hw hK (I.ok.hd hc) I hr st
    exact W.done s _ E hst fun h' tk fr => ⟨rfl, I.turnedL (t' := tk) (ch := wr) fr fun b hb => hf b (hwr b hb)⟩
  self := self

/-! ### lists and tuples alike -/
/-- the tuple (t) or list at a -/
def SqB (K : Fg) (H : Hp) (t : Bool) (a : Addr) (ys : List V) : Prop := match t with
  | true => SqT K H a ys
  | false => SqL K H a ys
def HSq (t : Bool) (h : Heap) (a : Addr) (its : Array Value) : Prop := match t with
  | true => h.IsTuple a its
  | false => h.IsList a its
def HIt (t : Bool) (h : Heap) (it a : Addr) (i : Nat) : Prop := match t with
  | true => h.IsTupleIter it a i
  | false => h.IsListIter it a i
def itN : Bool → String
  | true => "tuple_iterator"
  | false => "list_iterator"
def itO (t : Bool) (a : Addr) : Obj := { cls := .type (itN t), data := .fields #[.ref a, .int 0 0] }
theorem sqB_of {X : Cx} {pins : List (Addr × Obj)} {σ : L2.St} {H : Hp} {s : Shared} {t : Bool} {a : Addr} {ys : List V} (I : Inv X pins σ H s) (h : SqB X.K H t a ys) : ∃ its : List Value, Vals ys its ∧ HSq t s.heap a its.toArray := by
  cases t with
  | true =>
    obtain ⟨its, r, p, _⟩ := I.tuple h
    exact ⟨its, r, p⟩
  | false =>
    obtain ⟨its, r, p, _⟩ := I.list h
    exact ⟨its, r, p.isList⟩
theorem sqB_inj {X : Cx} {pins : List (Addr × Obj)} {σ : L2.St} {H : Hp} {s : Shared} {t : Bool} {a : Addr} {ys zs : List V} (I : Inv X pins σ H s) (h : SqB X.K H t a ys) (g : SqB X.K H t a zs) : ys = zs := by
  cases t with
  | true => exact I.tuple_inj h g
  | false => exact I.list_inj h g
theorem begins_sq (t : Bool) (a : Addr) (its : Array Value) : Begins (.ref a) (itO t a) fun h => HSq t h a its := by
  cases t with
  | true => exact begins_tuple a its
  | false => exact begins_list a its
theorem draws_sq {P : Program} {w : World} {A : Around} (hh : A.handled = none) (t : Bool) (it a : Addr) (hne : a ≠ it) (its : Array Value) :
    Draws P w A it [it, a] its.size (fun i v => its[i]? = some v) (fun i h => HIt t h it a i ∧ HSq t h a its) := by
  cases t with
  | true => exact Draws.tuple hh it a hne its
  | false => exact Draws.list hh it a hne its
theorem hIt_new {t : Bool} {h : Heap} {it a : Addr} (e : h.get? it = some (itO t a)) : HIt t h it a 0 := by
  cases t with
  | true => exact ⟨_, e, rfl, rfl⟩
  | false => exact ⟨_, e, rfl, rfl⟩
theorem hIt_keep {t : Bool} {h h' : Heap} {it a : Addr} {i : Nat} (x : HIt t h it a i) (k : ∀ o, h.get? it = some o → h'.get? it = some o) : HIt t h' it a i := by
  cases t with
  | true => exact Heap.IsTupleIter.at x k
  | false => exact Heap.IsListIter.at x k
theorem hIt_ob {t : Bool} {h : Heap} {it a : Addr} {i : Nat} (x : HIt t h it a i) : ∃ o, h.get? it = some o ∧ ∀ v, o.data ≠ .cell v := by
  cases t with
  | true =>
    obtain ⟨o, e, _, d⟩ := x
    exact ⟨o, e, fun v z => by rw [d] at z; cases z⟩
  | false =>
    obtain ⟨o, e, _, d⟩ := x
    exact ⟨o, e, fun v z => by rw [d] at z; cases z⟩
theorem hSq_lt {t : Bool} {h : Heap} {a : Addr} {its : Array Value} (x : HSq t h a its) : a < h.objs.size := by
  cases t with
  | true =>
    obtain ⟨o, e, _⟩ := x
    exact Heap.lt_size e
  | false =>
    obtain ⟨o, e, _⟩ := x
    exact Heap.lt_size e

/-! ### enumerate -/
def enR (j : Nat) : List V → List (List V)
  | [] => []
  | y :: r => [V.int (j : Nat), y] :: enR (j + 1) r
theorem enR_len : ∀ (ys : List V) (j : Nat), (enR j ys).length = ys.length
  | [], _ => rfl
  | _ :: r, j => congrArg (· + 1) (enR_len r (j + 1))
theorem enR_get : ∀ (ys : List V) (j i : Nat), (enR j ys)[i]? = (ys[i]?).map fun y => [V.int ((j + i : Nat) : Int), y]
  | [], _, _ => by simp [enR]
  | y :: r, j, 0 => by simp [enR]
  | y :: r, j, i + 1 => by
    unfold enR
    rw [List.getElem?_cons_succ, List.getElem?_cons_succ, enR_get r (j + 1) i, show j + 1 + i = j + (i + 1) by omega]
def rdE (K : Fg) (t : Bool) (a : Addr) : Hp → List (List V) → Prop := fun H rs => ∃ ys, SqB K H t a ys ∧ rs = enR 0 ys
theorem meets_enum_of {v : Value} {o : Obj} {H1 : Heap → Prop} (B : Begins v o H1) :
    Meets (Builtin.«enumerate.__new__» ⟨[.type "enumerate", v], []⟩) (fun _ R s => H1 s.heap ∧
      R (.ok (.ret (.ref (s.heap.push o).objs.size))) { s with heap := (s.heap.push o).push { cls := .type "enumerate", data := .fields #[.none, .bool false, .ref s.heap.objs.size, rawInt 0, .none, .none] } }) :=
  .of_wp fun prog w A R s h => by
    obtain ⟨hp, g, d, tk, os⟩ := s
    obtain ⟨h1, h⟩ := h
    have hsub := sub_enumerate
    have q1 : ∀ {A' : Around} {E : Value → Shared → Prop} {Q : Value → Shared → Prop}, Q (.ref hp.objs.size) ⟨hp.push o, g, d, tk, os⟩ → wpAny (model prog w) A' (pyIter v) Q E ⟨hp, g, d, tk, os⟩ :=
      fun q => B.iter prog w _ _ ⟨hp, g, d, tk, os⟩ _ h1 q
    wp_walk using q1
    refine wpAny_stack_any fun st => wpAny_pure ?_
    split
    · rename_i c _ _ _ _ _
      cases (c == Value.type "enumerate") <;>
        (wp_walk using q1
         exact ⟨_, rfl, h⟩)
    · wp_walk using q1
      exact ⟨_, rfl, h⟩
theorem enum_of {P : Program} {w : World} {A : Around} {E : Value → Shared → Prop} {s : Shared} {v : Value} {o : Obj} {H1 : Heap → Prop} {Q : Value → Shared → Prop} (B : Begins v o H1) (h1 : H1 s.heap)
    (h : ∀ h', IsEnum h' (s.heap.objs.size + 1) s.heap.objs.size 0 .none → h'.get? s.heap.objs.size = some o → (∀ b u, s.heap.get? b = some u → h'.get? b = some u) → Q (.ref (s.heap.objs.size + 1)) { s with heap := h' }) :
    wpAny (model P w) A (call (.type "enumerate") [v]) Q E s := by
  refine callType_new F.called_enumerate (by decide) (F.typeCall_enumerate_1 _) (F.newCall_enumerate_1 _) (fun obj => F.args_object_init_2 obj _) F.entry_enumerate_new (meets_enum_of B) ⟨h1, ?_⟩
  have z : (s.heap.push o).objs.size = s.heap.objs.size + 1 := by rw [Heap.size_push]
  have g : ((s.heap.push o).push { cls := .type "enumerate", data := .fields #[.none, .bool false, .ref s.heap.objs.size, rawInt 0, .none, .none] }).get? (s.heap.push o).objs.size = some _ := Heap.get?_push_size _ rfl
  show _ ∧ _
  rw [z] at g ⊢
  exact ⟨⟨_, g, rfl⟩, h _ g (Heap.get?_push_of_some _ (Heap.get?_push_size _ B.free)) fun b u x => Heap.get?_push_of_some _ (Heap.get?_push_of_some _ x)⟩
def tnE (t : Bool) (a e it : Addr) : Nat → Heap → Prop := fun i h => (∃ old, IsEnum h e it ((i : Nat) : Int) old) ∧ HIt t h it a i ∧ e ≠ it
theorem turn_en {P : Program} {w : World} {K : Fg} {elts : List Expr} {kk : Nat} {tpos : Pos} {t : Bool} {a e it : Addr} (hae : a ≠ e) (hai : a ≠ it) : Turn P w K (.Tuple elts kk tpos) (ItT (rdE K t a)) [e, it] e (tnE t a e it) := by
  refine turn_rows (wr := [e, it]) (by simp) (fun b hb => hb) (fun i h st b hb => ?_) (fun i h h' st k => ?_) (fun X pins σ H s r1 r2 hK I h1 h2 => ?_) (fun A i s Q E st h => ?_) fun X pins σ H s i rs hP hw hK hh I hr st => ?_
  · obtain ⟨⟨old, he⟩, hi, _⟩ := st
    have e' : b = e ∨ b = it := by simpa using hb
    rcases e' with z | z
    · rw [z]
      exact ⟨_, he, fun v q => nomatch q⟩
    · rw [z]
      exact hIt_ob hi
  · obtain ⟨⟨old, he⟩, hi, hne⟩ := st
    exact ⟨⟨old, k e (by simp) _ he⟩, hIt_keep hi fun o q => k it (by simp) o q, hne⟩
  · subst hK
    obtain ⟨y1, q1, rfl⟩ := h1
    obtain ⟨y2, q2, rfl⟩ := h2
    rw [sqB_inj I q1 q2]
  · obtain ⟨⟨_, he⟩, _⟩ := st
    exact wpAny_pyIter_enum he h
  · subst hP hw hK
    obtain ⟨ys, hy, rfl⟩ := hr
    obtain ⟨⟨old, he⟩, hi, hne⟩ := st
    obtain ⟨its, rv, hq⟩ := sqB_of I hy
    have D := draws_sq (P := X.prog) (w := X.w) (A := X.A.in1) (show X.A.in1.handled = none from hh) t it a hai its.toArray
    have hn : (enR 0 ys).length = its.toArray.size := by rw [enR_len, List.size_toArray, rv.length]
    rw [hn]
    refine ⟨_, _, _, _, WalksT.enumerateD D e hne (by simp [hne, Ne.symm hae]) (by simp), ⟨⟨old, he⟩, hi, hq⟩, fun j h x => ⟨x.1, x.2.1, hne⟩, fun j vals x => ?_⟩
    obtain ⟨tk, v, hv, rfl⟩ := x
    have hv : its[j]? = some v := by simpa using hv
    have hj : j < ys.length := by rw [rv.length]; exact (List.getElem?_eq_some_iff.mp hv).1
    obtain ⟨u, hu, ru⟩ := rv.get (List.getElem?_eq_getElem hj)
    have hu : its[j]? = some u := hu
    rw [hv] at hu
    cases hu
    refine ⟨[V.int ((j : Nat) : Int), ys[j]], ?_, by show 2 ≤ sizeLine; decide, .cons ⟨tk, rfl⟩ (.cons ru .nil)⟩
    rw [enR_get, List.getElem?_eq_getElem hj, Nat.zero_add]
    rfl

/-! ### zip of two, of three -/
def zpR : List V → List V → List (List V)
  | x :: xs, y :: ys => [x, y] :: zpR xs ys
  | _, _ => []
def zp3 : List V → List V → List V → List (List V)
  | x :: xs, y :: ys, z :: zs => [x, y, z] :: zp3 xs ys zs
  | _, _, _ => []
theorem zpR_get : ∀ (xs ys : List V) (i : Nat) (a b : V), xs[i]? = some a → ys[i]? = some b → (zpR xs ys)[i]? = some [a, b]
  | [], _, _, _, _, h, _ => by simp at h
  | _ :: _, [], _, _, _, _, h => by simp at h
  | x :: xs, y :: ys, 0, a, b, h, g => by
    simp at h g
    subst h g
    rfl
  | x :: xs, y :: ys, i + 1, a, b, h, g => zpR_get xs ys i a b h g
theorem zpR_len : ∀ (xs ys : List V), (zpR xs ys).length = min xs.length ys.length
  | [], _ => by simp [zpR]
  | _ :: _, [] => by simp [zpR]
  | x :: xs, y :: ys => by
    unfold zpR
    rw [List.length_cons, List.length_cons, List.length_cons, zpR_len xs ys]
    omega
theorem zp3_get : ∀ (xs ys zs : List V) (i : Nat) (a b c : V), xs[i]? = some a → ys[i]? = some b → zs[i]? = some c → (zp3 xs ys zs)[i]? = some [a, b, c]
  | [], _, _, _, _, _, _, h, _, _ => by simp at h
  | _ :: _, [], _, _, _, _, _, _, h, _ => by simp at h
  | _ :: _, _ :: _, [], _, _, _, _, _, _, h => by simp at h
  | x :: xs, y :: ys, z :: zs, 0, a, b, c, h, g, k => by
    simp at h g k
    subst h g k
    rfl
  | x :: xs, y :: ys, z :: zs, i + 1, a, b, c, h, g, k => zp3_get xs ys zs i a b c h g k
theorem zp3_len : ∀ (xs ys zs : List V), (zp3 xs ys zs).length = min (min xs.length ys.length) zs.length
  | [], _, _ => by simp [zp3]
  | _ :: _, [], _ => by simp [zp3]
  | _ :: _, _ :: _, [] => by simp [zp3]
  | x :: xs, y :: ys, z :: zs => by
    unfold zp3
    rw [List.length_cons, List.length_cons, List.length_cons, List.length_cons, zp3_len xs ys zs]
    omega
def rdZ (K : Fg) (t1 : Bool) (a : Addr) (t2 : Bool) (b : Addr) : Hp → List (List V) → Prop := fun H rs => ∃ xs ys, SqB K H t1 a xs ∧ SqB K H t2 b ys ∧ rs = zpR xs ys
def rdZ3 (K : Fg) (t1 : Bool) (a : Addr) (t2 : Bool) (b : Addr) (t3 : Bool) (c : Addr) : Hp → List (List V) → Prop := fun H rs => ∃ xs ys zs, SqB K H t1 a xs ∧ SqB K H t2 b ys ∧ SqB K H t3 c zs ∧ rs = zp3 xs ys zs
def tnZ (t1 : Bool) (a : Addr) (t2 : Bool) (b : Addr) (z TI TO i1 i2 : Addr) : Nat → Heap → Prop := fun i h => IsZip h z TI TO .none ∧ IsTupOf2 h TI (.ref i1) (.ref i2) ∧ (∃ x y, IsTupOf2 h TO x y) ∧ HIt t1 h i1 a i ∧ HIt t2 h i2 b i
def tnZ3 (t1 : Bool) (a : Addr) (t2 : Bool) (b : Addr) (t3 : Bool) (c : Addr) (z TI TO i1 i2 i3 : Addr) : Nat → Heap → Prop := fun i h => IsZip h z TI TO .none ∧ IsTupOf3 h TI (.ref i1) (.ref i2) (.ref i3) ∧ (∃ x y u, IsTupOf3 h TO x y u) ∧ HIt t1 h i1 a i ∧ HIt t2 h i2 b i ∧ HIt t3 h i3 c i
theorem vals_at {ys : List V} {its : List Value} (rv : Vals ys its) {j : Nat} {v : Value} (h : its.toArray[j]? = some v) : ∃ y, ys[j]? = some y ∧ RelV y v := by
  have h : its[j]? = some v := by simpa using h
  have hj : j < ys.length := by rw [rv.length]; exact (List.getElem?_eq_some_iff.mp h).1
  obtain ⟨u, hu, ru⟩ := rv.get (List.getElem?_eq_getElem hj)
  have hu : its[j]? = some u := hu
  rw [h] at hu
  cases hu
  exact ⟨_, List.getElem?_eq_getElem hj, ru⟩
theorem hIt_ne {t : Bool} {h : Heap} {it a : Addr} {i : Nat} {its : Array Value} (x : HIt t h it a i) (y : HSq t h a its) : a ≠ it := fun e => by
  subst e
  cases t with
  | true =>
    obtain ⟨o1, e1, c1, d1⟩ := x
    obtain ⟨o2, e2, c2, n, d2⟩ := y
    rw [e1] at e2
    cases e2
    rw [d1] at d2
    cases d2
  | false =>
    obtain ⟨o1, e1, c1, d1⟩ := x
    obtain ⟨o2, e2, c2, n, d2⟩ := y
    rw [e1] at e2
    cases e2
    rw [d1] at d2
    cases d2
theorem turn_z2 {P : Program} {w : World} {K : Fg} {elts : List Expr} {kk : Nat} {tpos : Pos} {t1 t2 : Bool} {a b z TI TO i1 i2 : Addr} (S : ZipSep2 z TI TO i1 i2 [i1, a] [i2, b]) :
    Turn P w K (.Tuple elts kk tpos) (ItT (rdZ K t1 a t2 b)) [z, TI, TO, i1, i2] z (tnZ t1 a t2 b z TI TO i1 i2) := by
  refine turn_rows (wr := [z, TO, i1, i2]) (by simp) (fun c hc => by simp at hc ⊢; rcases hc with h | h | h | h <;> simp [h]) (fun i h st c hc => ?_) (fun i h h' st k => ?_) (fun X pins σ H s r1 r2 hK I h1 h2 => ?_) (fun A i s Q E st h => ?_) fun X pins σ H s i rs hP hw hK hh I hr st => ?_
  · obtain ⟨hz, hTI, ⟨x, y, hTO⟩, h1, h2⟩ := st
    have e' : c = z ∨ c = TI ∨ c = TO ∨ c = i1 ∨ c = i2 := by simpa using hc
    rcases e' with q | q | q | q | q
    · rw [q]; exact ⟨_, hz, fun v q => nomatch q⟩
    · rw [q]; exact ⟨_, hTI, fun v q => nomatch q⟩
    · rw [q]; exact ⟨_, hTO, fun v q => nomatch q⟩
    · rw [q]; exact hIt_ob h1
    · rw [q]; exact hIt_ob h2
  · obtain ⟨hz, hTI, ⟨x, y, hTO⟩, h1, h2⟩ := st
    exact ⟨k z (by simp) _ hz, k TI (by simp) _ hTI, ⟨x, y, k TO (by simp) _ hTO⟩, hIt_keep h1 fun o q => k i1 (by simp) o q, hIt_keep h2 fun o q => k i2 (by simp) o q⟩
  · subst hK
    obtain ⟨x1, y1, p1, q1, rfl⟩ := h1
    obtain ⟨x2, y2, p2, q2, rfl⟩ := h2
    rw [sqB_inj I p1 p2, sqB_inj I q1 q2]
  · exact wpAny_pyIter_zip st.1 h
  · subst hP hw hK
    obtain ⟨xs, ys, hx, hy, rfl⟩ := hr
    obtain ⟨hz, hTI, hTO, h1, h2⟩ := st
    obtain ⟨is1, rv1, hq1⟩ := sqB_of I hx
    obtain ⟨is2, rv2, hq2⟩ := sqB_of I hy
    have hh1 : X.A.in1.handled = none := hh
    have D1 := draws_sq (P := X.prog) (w := X.w) hh1 t1 i1 a (hIt_ne h1 hq1) is1.toArray
    have D2 := draws_sq (P := X.prog) (w := X.w) hh1 t2 i2 b (hIt_ne h2 hq2) is2.toArray
    have hn : (zpR xs ys).length = min is1.toArray.size is2.toArray.size := by rw [zpR_len, List.size_toArray, List.size_toArray, rv1.length, rv2.length]
    rw [hn]
    refine ⟨_, _, _, _, WalksT.zipD2 S D1 D2, ⟨hz, hTI, hTO, ⟨h1, hq1⟩, ⟨h2, hq2⟩⟩, fun j h x => ⟨x.1, x.2.1, x.2.2.1, x.2.2.2.1.1, x.2.2.2.2.1⟩, fun j vals x => ?_⟩
    obtain ⟨u1, u2, g1, g2, rfl⟩ := x
    obtain ⟨y1, e1, r1⟩ := vals_at rv1 g1
    obtain ⟨y2, e2, r2⟩ := vals_at rv2 g2
    exact ⟨_, zpR_get _ _ _ _ _ e1 e2, by show 2 ≤ sizeLine; decide, .cons r1 (.cons r2 .nil)⟩
theorem turn_z3 {P : Program} {w : World} {K : Fg} {elts : List Expr} {kk : Nat} {tpos : Pos} {t1 t2 t3 : Bool} {a b c z TI TO i1 i2 i3 : Addr} (S : ZipSep3 z TI TO i1 i2 i3 [i1, a] [i2, b] [i3, c]) :
    Turn P w K (.Tuple elts kk tpos) (ItT (rdZ3 K t1 a t2 b t3 c)) [z, TI, TO, i1, i2, i3] z (tnZ3 t1 a t2 b t3 c z TI TO i1 i2 i3) := by
  refine turn_rows (wr := [z, TO, i1, i2, i3]) (by simp) (fun c hc => by simp at hc ⊢; rcases hc with h | h | h | h | h <;> simp [h]) (fun i h st c hc => ?_) (fun i h h' st k => ?_) (fun X pins σ H s r1 r2 hK I h1 h2 => ?_) (fun A i s Q E st h => ?_) fun X pins σ H s i rs hP hw hK hh I hr st => ?_
  · obtain ⟨hz, hTI, ⟨x, y, u, hTO⟩, h1, h2, h3⟩ := st
    have e' : c = z ∨ c = TI ∨ c = TO ∨ c = i1 ∨ c = i2 ∨ c = i3 := by simpa using hc
    rcases e' with q | q | q | q | q | q
    · rw [q]; exact ⟨_, hz, fun v q => nomatch q⟩
    · rw [q]; exact ⟨_, hTI, fun v q => nomatch q⟩
    · rw [q]; exact ⟨_, hTO, fun v q => nomatch q⟩
    · rw [q]; exact hIt_ob h1
    · rw [q]; exact hIt_ob h2
    · rw [q]; exact hIt_ob h3
  · obtain ⟨hz, hTI, ⟨x, y, u, hTO⟩, h1, h2, h3⟩ := st
    exact ⟨k z (by simp) _ hz, k TI (by simp) _ hTI, ⟨x, y, u, k TO (by simp) _ hTO⟩, hIt_keep h1 fun o q => k i1 (by simp) o q, hIt_keep h2 fun o q => k i2 (by simp) o q, hIt_keep h3 fun o q => k i3 (by simp) o q⟩
  · subst hK
    obtain ⟨x1, y1, z1, p1, q1, s1, rfl⟩ := h1
    obtain ⟨x2, y2, z2, p2, q2, s2, rfl⟩ := h2
    rw [sqB_inj I p1 p2, sqB_inj I q1 q2, sqB_inj I s1 s2]
  · exact wpAny_pyIter_zip st.1 h
  · subst hP hw hK
    obtain ⟨xs, ys, zs, hx, hy, hu, rfl⟩ := hr
    obtain ⟨hz, hTI, hTO, h1, h2, h3⟩ := st
    obtain ⟨is1, rv1, hq1⟩ := sqB_of I hx
    obtain ⟨is2, rv2, hq2⟩ := sqB_of I hy
    obtain ⟨is3, rv3, hq3⟩ := sqB_of I hu
    have hh1 : X.A.in1.handled = none := hh
    have D1 := draws_sq (P := X.prog) (w := X.w) hh1 t1 i1 a (hIt_ne h1 hq1) is1.toArray
    have D2 := draws_sq (P := X.prog) (w := X.w) hh1 t2 i2 b (hIt_ne h2 hq2) is2.toArray
    have D3 := draws_sq (P := X.prog) (w := X.w) hh1 t3 i3 c (hIt_ne h3 hq3) is3.toArray
    have hn : (zp3 xs ys zs).length = min (min is1.toArray.size is2.toArray.size) is3.toArray.size := by rw [zp3_len, List.size_toArray, List.size_toArray, List.size_toArray, rv1.length, rv2.length, rv3.length]
    rw [hn]
    refine ⟨_, _, _, _, WalksT.zipD3 S D1 D2 D3, ⟨hz, hTI, hTO, ⟨h1, hq1⟩, ⟨h2, hq2⟩, ⟨h3, hq3⟩⟩, fun j h x => ⟨x.1, x.2.1, x.2.2.1, x.2.2.2.1.1, x.2.2.2.2.1.1, x.2.2.2.2.2.1⟩, fun j vals x => ?_⟩
    obtain ⟨u1, u2, u3, g1, g2, g3, rfl⟩ := x
    obtain ⟨y1, e1, r1⟩ := vals_at rv1 g1
    obtain ⟨y2, e2, r2⟩ := vals_at rv2 g2
    obtain ⟨y3, e3, r3⟩ := vals_at rv3 g3
    exact ⟨_, zp3_get _ _ _ _ _ _ _ e1 e2 e3, by show 3 ≤ sizeLine; decide, .cons r1 (.cons r2 (.cons r3 .nil))⟩

theorem new_le (l : List Nat) (n b : Nat) (h : b ∈ l.map (n + ·)) : n ≤ b := by
  obtain ⟨k, _, rfl⟩ := List.mem_map.mp h
  exact Nat.le_add_right _ _
theorem not2 {a b c : Nat} (h : a ≠ b) (g : a ≠ c) : a ∉ [b, c] := by simp [h, g]
theorem sep2 (n a b : Nat) (h : a < n) (g : b < n) : ZipSep2 (n + 4) (n + 2) (n + 3) n (n + 1) [n, a] [n + 1, b] where
  TIz := show (n + 2 : Nat) ≠ n + 4 by omega
  TOz := show (n + 3 : Nat) ≠ n + 4 by omega
  TITO := show (n + 2 : Nat) ≠ n + 3 by omega
  TIi1 := show (n + 2 : Nat) ≠ n by omega
  mem1 := List.mem_cons_self
  zf1 := not2 (by omega) (by omega)
  Tf1 := not2 (by omega) (by omega)
  TIi2 := show (n + 2 : Nat) ≠ n + 1 by omega
  mem2 := List.mem_cons_self
  zf2 := not2 (by omega) (by omega)
  Tf2 := not2 (by omega) (by omega)
  sep1_2 := not2 (by omega) (by omega)
  sep2_1 := not2 (by omega) (by omega)
theorem sep3 (n a b c : Nat) (h : a < n) (g : b < n) (k : c < n) : ZipSep3 (n + 5) (n + 3) (n + 4) n (n + 1) (n + 2) [n, a] [n + 1, b] [n + 2, c] := by
  constructor <;> first
    | exact not2 (by omega) (by omega)
    | exact List.mem_cons_self
    | exact Nat.ne_of_lt (by omega)
    | exact Nat.ne_of_gt (by omega)

/-! ### the iterators come -/
def iEnB (K : Fg) (ta : TA) : TI := fun σ H R => ta σ H fun vs H1 => ∃ t a ys, vs = [V.ref a] ∧ SqB K H1 t a ys ∧ R (ItT (rdE K t a)) H1
def iZpB (K : Fg) (ta : TA) : TI := fun σ H R => ta σ H fun vs H1 => ∃ t1 a xs t2 b ys, vs = [V.ref a, V.ref b] ∧ SqB K H1 t1 a xs ∧ SqB K H1 t2 b ys ∧ R (ItT (rdZ K t1 a t2 b)) H1
def iZp3 (K : Fg) (ta : TA) : TI := fun σ H R => ta σ H fun vs H1 => ∃ t1 a xs t2 b ys t3 c zs, vs = [V.ref a, V.ref b, V.ref c] ∧ SqB K H1 t1 a xs ∧ SqB K H1 t2 b ys ∧ SqB K H1 t3 c zs ∧ R (ItT (rdZ3 K t1 a t2 b t3 c)) H1
section
variable {X : Cx} {ta : TA} {p pos tpos : Pos} {elts : List Expr} {kk : Nat} {e e2 e3 : Expr}
theorem pi_enB (hg : L2.Gl X "enumerate") (hm : X.mg "enumerate" = none) (ha : PA X [e] ta) (hs : starEach [e] X.env = [(false, eval e X.env)]) : PI X (.Tuple elts kk tpos) (.Call (.Name "enumerate" p) [e] [] pos) (iEnB X.K ta) := by
  refine ⟨fun pins s σ H R I h => Call_ (ld_blt I hg hm boot_enumerate (callWith_type1 (thn (ha.run pos pins s σ H _ I h) fun us s1 ⟨vs, H1, I1, r1, t, a, ys, ex, hq, q⟩ => ?_) hs rfl))⟩
  subst ex
  cases r1 with
  | cons r rr =>
    cases rr
    cases r
    obtain ⟨its, rv, hsq⟩ := sqB_of I1 hq
    have la := hSq_lt hsq
    refine enum_of (begins_sq t a its.toArray) hsq fun h' he hit hk => wpAny_pyIter_enum he ?_
    refine ⟨s1.heap.objs.size + 1, [s1.heap.objs.size + 1, s1.heap.objs.size], _, _, H1, rfl, I1.kept (t' := s1.toks) hk, turn_en (Nat.ne_of_lt (Nat.lt_succ_of_lt la)) (Nat.ne_of_lt la), ⟨⟨.none, he⟩, hIt_new hit, Nat.succ_ne_self _⟩, fun b hb => ?_, q⟩
    have hle : s1.heap.objs.size ≤ b := new_le [1, 0] _ _ hb
    exact I1.fpOk hle (I1.hok.fresh hle)
theorem pi_zpB (hg : L2.Gl X "zip") (hm : X.mg "zip" = none) (ha : PA X [e, e2] ta) (hs : starEach [e, e2] X.env = (false, eval e X.env) :: starEach [e2] X.env) (hpl : (backTo pos (starEach [e2] X.env)).any (·.1) = false) :
    PI X (.Tuple elts kk tpos) (.Call (.Name "zip" p) [e, e2] [] pos) (iZpB X.K ta) := by
  refine ⟨fun pins s σ H R I h => Call_ (ld_blt I hg hm boot_zip (callWith_type1 (thn (ha.run pos pins s σ H _ I h) fun us s1 ⟨vs, H1, I1, r1, t1, a, xs, t2, b, ys, ex, hx, hy, q⟩ => ?_) hs hpl))⟩
  subst ex
  cases r1 with
  | cons r rr =>
    cases rr with
    | cons r' rr =>
      cases rr
      cases r
      cases r'
      obtain ⟨is1, rv1, hq1⟩ := sqB_of I1 hx
      obtain ⟨is2, rv2, hq2⟩ := sqB_of I1 hy
      have la := hSq_lt hq1
      have lb := hSq_lt hq2
      refine zip_begins2 (begins_sq t1 a is1.toArray) (begins_sq t2 b is2.toArray) hq1 hq2 fun h' hz hTI hTO g1 g2 hsz hk => wpAny_pyIter_zip hz ?_
      refine ⟨s1.heap.objs.size + 4, [s1.heap.objs.size + 4, s1.heap.objs.size + 2, s1.heap.objs.size + 3, s1.heap.objs.size, s1.heap.objs.size + 1], _, _, H1, rfl, I1.kept (t' := s1.toks) hk, turn_z2 (sep2 _ _ _ la lb), ⟨hz, hTI, ⟨_, _, hTO⟩, hIt_new g1, hIt_new g2⟩, fun c hc => ?_, q⟩
      · have hle : s1.heap.objs.size ≤ c := new_le [4, 2, 3, 0, 1] _ _ hc
        exact I1.fpOk hle (I1.hok.fresh hle)
theorem pi_zp3 (hg : L2.Gl X "zip") (hm : X.mg "zip" = none) (ha : PA X [e, e2, e3] ta) (hs : starEach [e, e2, e3] X.env = (false, eval e X.env) :: starEach [e2, e3] X.env) (hpl : (backTo pos (starEach [e2, e3] X.env)).any (·.1) = false) :
    PI X (.Tuple elts kk tpos) (.Call (.Name "zip" p) [e, e2, e3] [] pos) (iZp3 X.K ta) := by
  refine ⟨fun pins s σ H R I h => Call_ (ld_blt I hg hm boot_zip (callWith_type1 (thn (ha.run pos pins s σ H _ I h) fun us s1 ⟨vs, H1, I1, r1, t1, a, xs, t2, b, ys, t3, c, zs, ex, hx, hy, hu, q⟩ => ?_) hs hpl))⟩
  subst ex
  cases r1 with
  | cons r rr =>
    cases rr with
    | cons r' rr =>
      cases rr with
      | cons r'' rr =>
        cases rr
        cases r
        cases r'
        cases r''
        obtain ⟨is1, rv1, hq1⟩ := sqB_of I1 hx
        obtain ⟨is2, rv2, hq2⟩ := sqB_of I1 hy
        obtain ⟨is3, rv3, hq3⟩ := sqB_of I1 hu
        have la := hSq_lt hq1
        have lb := hSq_lt hq2
        have lc := hSq_lt hq3
        refine zip_begins3 (begins_sq t1 a is1.toArray) (begins_sq t2 b is2.toArray) (begins_sq t3 c is3.toArray) hq1 hq2 hq3 fun h' hz hTI hTO g1 g2 g3 hsz hk => wpAny_pyIter_zip hz ?_
        refine ⟨s1.heap.objs.size + 5, [s1.heap.objs.size + 5, s1.heap.objs.size + 3, s1.heap.objs.size + 4, s1.heap.objs.size, s1.heap.objs.size + 1, s1.heap.objs.size + 2], _, _, H1, rfl, I1.kept (t' := s1.toks) hk, turn_z3 (sep3 _ _ _ _ la lb lc), ⟨hz, hTI, ⟨_, _, _, hTO⟩, hIt_new g1, hIt_new g2, hIt_new g3⟩, fun c hc => ?_, q⟩
        · have hle : s1.heap.objs.size ≤ c := new_le [5, 3, 4, 0, 1, 2] _ _ hc
          exact I1.fpOk hle (I1.hok.fresh hle)
end
end EV
/-! SeA: sets of texts. -/
namespace EV
open PySem PySem.Spec PyProof.Rows L2

section
variable {P : Program} {w : World} {A : Around} {E : Value → Shared → Prop} {s : Shared}
/-- a text that is there already -/
theorem dup_x {a : Addr} {T : String} {D : Froz.SD} {l : List Str} {k : Str} {u : Tok} {Q : Bool → Shared → Prop} (ho : s.heap.get? a = some (Froz.sObj T D)) (F : Froz.TxOk P w D l) (hk : k ∈ l) (hb : l.length < scanBound) (h : Q false s) : wpAny (model P w) A (setAddHashed a (.str k u) (hashStr w k)) Q E s := by
  obtain ⟨es, ep, t⟩ := D
  have hd : (Froz.sObj T (es, ep, t)).data = .set es ep t := rfl
  have hf : t.fits es.size = true := F.fit
  have hel : ElemsOf (strKind P w) es.toList := F.el
  have hb0 : es.size < scanBound := F.sz ▸ hb
  have hkey : (strKind P w).is k (.str k u) = true := Froz.is_str k u
  obtain ⟨j, hj⟩ : ∃ j, List.findIdx? (fun e => (strKind P w).is k e.2) es.toList = some j := by
    cases hr : List.findIdx? (fun e => (strKind P w).is k e.2) es.toList with
    | some j => exact ⟨j, rfl⟩
    | none =>
      obtain ⟨e, he, q⟩ := (F.mem k).mp hk
      have c := List.findIdx?_eq_none_iff.mp hr e he
      rw [q] at c
      cases c
  unfold setAddHashed setAddHashedIn
  refine wpAny_holding (wpAny_bind (wpAny_setState_of ho hd hf ?_))
  dsimp only
  rw [byScan_of rfl hb0 hel]
  simp only [↓reduceIte]
  unfold setAddByScan
  refine wpAny_bind (wpAny_bind (wpAny_rule (wpAny_bind (wpAny_setScan_of (knd := strKind P w) (k := k) hkey ho hd hf hel ?_))))
  rw [hj]
  exact wpAny_pure (wpAny_pure h)
end
theorem perm_of_sub {α : Type} [DecidableEq α] : ∀ {l zs : List α}, l.Nodup → (∀ k ∈ l, k ∈ zs) → zs.length ≤ l.length → l.Perm zs
  | [], zs, _, _, h => by
    obtain rfl : zs = [] := List.eq_nil_of_length_eq_zero (Nat.le_zero.mp h)
    exact .nil
  | a :: r, zs, nd, hs, h => by
    obtain ⟨n1, n2⟩ := List.nodup_cons.mp nd
    have ha := hs a List.mem_cons_self
    have p := List.perm_cons_erase ha
    have hl : zs.length = (zs.erase a).length + 1 := p.length_eq
    refine ((perm_of_sub (l := r) (zs := zs.erase a) n2 (fun k hk => ?_) ?_).cons a).trans p.symm
    · exact (List.mem_erase_of_ne fun e : k = a => n1 (e ▸ hk)).mpr (hs k (List.mem_cons_of_mem _ hk))
    · simp only [List.length_cons] at h
      omega
/-- the set of the texts l at a -/
def TxR (P : Program) (w : World) (h : Heap) (a : Addr) (l : List Str) : Prop :=
  ∃ D, h.get? a = some (Froz.sObj "set" D) ∧ Froz.TxOk P w D l ∧ Ris D.2.2.place.toList ∧ (w.params.followText "set-order" = true ∨ D.2.2.led = true) ∧ l.Nodup
theorem TxR.keep {P : Program} {w : World} {h h' : Heap} {a : Addr} {l : List Str} (R : TxR P w h a l) (k : ∀ o, h.get? a = some o → h'.get? a = some o) : TxR P w h' a l := by
  obtain ⟨D, ho, r⟩ := R
  exact ⟨D, k _ ho, r⟩
/-- l behind a text more -/
def addL (l : List Str) (k : Str) : List Str := if k ∈ l then l else k :: l
theorem mem_addL {l : List Str} {k j : Str} : j ∈ addL l k ↔ j = k ∨ j ∈ l := by
  unfold addL
  split
  · rename_i h
    exact ⟨.inr, fun z => z.elim (fun e => e ▸ h) id⟩
  · exact List.mem_cons
theorem nodup_addL {l : List Str} {k : Str} (h : l.Nodup) : (addL l k).Nodup := by
  unfold addL
  split
  · exact h
  · rename_i hk
    exact List.nodup_cons.mpr ⟨hk, h⟩
theorem len_addL {l : List Str} {k : Str} : (addL l k).length ≤ l.length + 1 := by
  unfold addL
  split
  · exact Nat.le_succ _
  · exact Nat.le_refl _
theorem tailTx_ris {ep : Nat} {es1 : Array (Int × Value)} {t2 : SetTable} {wd : Bool} (r : Ris t2.place.toList) : Ris (Froz.tailTx ep es1 t2 wd).2.2.place.toList := by
  unfold Froz.tailTx
  by_cases c : (!wd && t2.tooFull) = true
  · rw [if_pos c]
    exact relayAll_ris _ _ _
  · rw [if_neg c]
    exact r
theorem tailTx_led {ep : Nat} {es1 : Array (Int × Value)} {t2 : SetTable} {wd : Bool} : (Froz.tailTx ep es1 t2 wd).2.2.led = t2.led := by
  unfold Froz.tailTx
  by_cases c : (!wd && t2.tooFull) = true
  · rw [if_pos c]
    exact relayAll_led _ _ _
  · rw [if_neg c]
theorem addTx_ris (h : Int) (v : Value) (D : Froz.SD) (r : Ris D.2.2.place.toList) : Ris (Froz.addTx h v D).2.2.place.toList := by
  have r1 := layNew_ris D.2.2 D.1 h v r
  refine tailTx_ris ?_
  by_cases c : (layNew D.2.2 D.1 h v).2.1.plain = true
  · rw [if_pos c]
    exact r1
  · rw [if_neg c]
    exact r1
theorem addTx_led (h : Int) (v : Value) (D : Froz.SD) : (Froz.addTx h v D).2.2.led = D.2.2.led := by
  have r1 := layNew_led D.2.2 D.1 h v
  refine tailTx_led.trans ?_
  by_cases c : (layNew D.2.2 D.1 h v).2.1.plain = true
  · rw [if_pos c]
    exact r1
  · rw [if_neg c]
    exact r1
section
variable {P : Program} {w : World} {A : Around} {E : Value → Shared → Prop} {s : Shared}
theorem add_tx {a : Addr} {l : List Str} {k : Str} {u : Tok} {Q : Bool → Shared → Prop} (R : TxR P w s.heap a l) (hb : l.length + 1 < scanBound)
    (h : ∀ b h', TxR P w h' a (addL l k) → Heap.SameBut a s.heap h' → Q b { s with heap := h' }) : wpAny (model P w) A (setAddHashed a (.str k u) (hashStr w k)) Q E s := by
  obtain ⟨D, ho, F, r, hl, nd⟩ := R
  by_cases hk : k ∈ l
  · refine dup_x ho F hk (Nat.lt_of_succ_lt hb) (h false s.heap ⟨D, ho, ?_, r, hl, nodup_addL nd⟩ (Heap.SameBut.refl _ _))
    have : addL l k = l := if_pos hk
    rw [this]
    exact F
  · refine Froz.add_x ho F hk hb (h true _ ⟨Froz.addTx (hashStr w k) (.str k u) D, Froz.get_upd _ ho rfl, ?_, addTx_ris _ _ _ r, ?_, nodup_addL nd⟩ (Heap.SameBut.update ..))
    · have : addL l k = k :: l := if_neg hk
      rw [this]
      exact Froz.add_ok u F
    · rw [addTx_led]
      exact hl
theorem txR_fresh {h : Heap} {a : Addr} (ho : h.get? a = some { cls := .type "set", dict := none, data := .set #[] 0 (.fresh 0 0 (!w.params.followText "set-order")) }) : TxR P w h a [] := by
  refine ⟨(#[], 0, .fresh 0 0 (!w.params.followText "set-order")), ho, Froz.TxOk.nil rfl, List.Pairwise.nil, ?_, List.nodup_nil⟩
  show _ ∨ (!w.params.followText "set-order") = true
  cases w.params.followText "set-order"
  · exact .inr rfl
  · exact .inl rfl
theorem TxR.at_ {a : Addr} {l : List Str} (R : TxR P w s.heap a l) : ∃ es ep t, SetAt s.heap a es ep t ∧ t.fits es.size = true ∧ es.size = l.length ∧ Ris t.place.toList ∧ (w.params.followText "set-order" = true ∨ t.led = true) ∧ ∃ us, es.toList.map (·.2) = us ∧ ∃ zs, StrsAre us zs ∧ zs.Perm l := by
  obtain ⟨⟨es, ep, t⟩, ho, F, r, hl, nd⟩ := R
  refine ⟨es, ep, t, ⟨_, ho, rfl, rfl⟩, F.fit, F.sz, r, hl, _, rfl, ?_⟩
  have hz : ∀ l2 : List (Int × Value), ElemsOf (strKind P w) l2 → ∃ zs, StrsAre (l2.map (·.2)) zs ∧ ∀ k, k ∈ zs ↔ ∃ e ∈ l2, (strKind P w).is k e.2 = true := fun l2 => by
    induction l2 with
    | nil => exact fun _ => ⟨[], .nil, fun k => by simp⟩
    | cons e r ih =>
      intro hel
      obtain ⟨zs, h1, h2⟩ := ih fun x hx => hel x (List.mem_cons_of_mem _ hx)
      obtain ⟨⟨k, hk, _⟩, _⟩ := hel e List.mem_cons_self
      have hk : Value.isStrOf k e.2 = true := hk
      obtain ⟨v, hv⟩ : ∃ t, e.2 = .str k t := by
        cases e2 : e.2 <;> rw [e2] at hk <;> first
          | (cases hk; done)
          | (rename_i x t
             have : x = k := by simpa [Value.isStrOf] using hk
             exact ⟨t, by rw [this]⟩)
      refine ⟨k :: zs, ?_, fun j => ?_⟩
      · rw [List.map_cons, hv]
        exact StrsAre.cons k v h1
      · rw [List.mem_cons, h2 j]
        constructor
        · rintro (z | ⟨x, hx, q⟩)
          · subst z
            exact ⟨e, List.mem_cons_self, by rw [hv]; exact Froz.is_str j v⟩
          · exact ⟨x, List.mem_cons_of_mem _ hx, q⟩
        · rintro ⟨x, hx, q⟩
          rcases List.mem_cons.mp hx with z | hx
          · left
            rw [z, hv] at q
            have q : Value.isStrOf j (.str k v) = true := q
            have : k = j := by simpa [Value.isStrOf] using q
            exact this.symm
          · exact .inr ⟨x, hx, q⟩
  obtain ⟨zs, h1, h2⟩ := hz es.toList F.el
  refine ⟨zs, h1, ?_⟩
  have hm : ∀ k, k ∈ zs ↔ k ∈ l := fun k => (h2 k).trans (F.mem k).symm
  have hlen : zs.length = l.length := by
    have := h1.length
    rw [List.length_map] at this
    rw [← F.sz, ← Array.length_toList]
    exact this.symm
  exact (perm_of_sub nd (fun k hk => (hm k).mpr hk) (Nat.le_of_eq hlen)).symm
/-- the texts of xs one after another -/
def txAll (xs : List Str) (l : List Str) : List Str := xs.foldl addL l
theorem mem_txAll {k : Str} : ∀ {xs l : List Str}, k ∈ txAll xs l ↔ k ∈ xs ∨ k ∈ l
  | [], l => by simp [txAll]
  | x :: xs, l => by
    show k ∈ txAll xs (addL l x) ↔ _
    rw [mem_txAll, mem_addL, List.mem_cons]
    constructor
    · rintro (h | h | h)
      · exact .inl (.inr h)
      · exact .inl (.inl h)
      · exact .inr h
    · rintro ((h | h) | h)
      · exact .inr (.inl h)
      · exact .inl h
      · exact .inr (.inr h)
theorem nodup_txAll : ∀ {xs l : List Str}, l.Nodup → (txAll xs l).Nodup
  | [], _, h => h
  | _ :: xs, _, h => nodup_txAll (xs := xs) (nodup_addL h)
theorem len_txAll : ∀ (xs l : List Str), (txAll xs l).length ≤ xs.length + l.length
  | [], l => by
    show l.length ≤ 0 + l.length
    omega
  | x :: xs, l => by
    have h1 := len_txAll xs (addL l x)
    have h2 := len_addL (l := l) (k := x)
    show (txAll xs (addL l x)).length ≤ xs.length + 1 + l.length
    omega
theorem txAll_take {xs : List Str} {i : Nat} {x : Str} (h : xs[i]? = some x) : txAll (xs.take (i + 1)) [] = addL (txAll (xs.take i) []) x := by
  unfold txAll
  rw [List.take_add_one, h, List.foldl_append]
  rfl
/-- set.update's loop over texts -/
theorem update_txs {I : Addr} {fp wr : List Addr} {G : Array GenState → Array GenState → Prop} {n : Nat} {Pv : Nat → Value → Prop} {St : Nat → Shared → Prop} {R : Result → Shared → Prop} (W : WalksS P w A.in1 I fp wr G n Pv St) (S : Addr) (hSf : S ∉ fp) (xs : List Str) (hn : n = xs.length) (hb : xs.length + 1 < scanBound)
    (hval : ∀ i v, Pv i v → ∃ x t, xs[i]? = some x ∧ v = .str x t) : ∀ (k i : Nat) (s : Shared), n - i = k → i ≤ n → St i s → TxR P w s.heap S (txAll (xs.take i) []) →
      (∀ s', Moved (S :: wr) G s s' → TxR P w s'.heap S (txAll xs []) → R (.ok (.ret .none)) s') → codeAny (model P w) A (.builtin "set.update.loop" ⟨[.ref S, .ref I], []⟩) R s := by
  have hSw : S ∉ wr := fun h => hSf (W.sub _ h)
  have hsub : ∀ b ∈ wr, b ∈ S :: wr := fun b hb => List.mem_cons_of_mem _ hb
  intro k
  induction k with
  | zero =>
    intro i s hk hi hst hS hR
    obtain rfl : i = n := by omega
    refine codeAny_builtin F.entry_set_update_loop ?_
    rw [Around.under_plainId F.plain_set_update_loop _]
    show wpAny _ A.in1 (pyNext (.ref I) >>= _) _ _ s
    refine wpAny_bind (W.done s _ _ hst fun s' hm => ?_)
    show wpAny _ A.in1 (ret Value.none) _ _ s'
    rw [hn, List.take_length] at hS
    exact wpAny_pure (hR s' (hm.mono hsub) (hS.keep fun o e => hm.heap S o hSw e))
  | succ k ih =>
    intro i s hk hi hst hS hR
    have hlt : i < n := by omega
    refine codeAny_builtin F.entry_set_update_loop ?_
    rw [Around.under_plainId F.plain_set_update_loop _]
    show wpAny _ A.in1 (pyNext (.ref I) >>= _) _ _ s
    refine wpAny_bind (W.item i s _ _ hlt hst fun v s' hP hst' hm => ?_)
    obtain ⟨x, t, hx, rfl⟩ := hval i v hP
    have hS' := hS.keep fun o e => hm.heap S o hSw e
    show wpAny _ A.in1 (holding [Value.str x t] (setAdd S (.str x t)) >>= _) _ _ s'
    refine wpAny_bind (wpAny_holding ?_)
    unfold setAdd
    refine wpAny_holding (wpAny_bind (wpAny_pyHash_str ?_))
    have hlen : (txAll (xs.take i) []).length + 1 < scanBound := by
      have h1 := len_txAll (xs.take i) []
      have h2 := List.length_take_le i xs
      simp only [List.length_nil] at h1
      omega
    refine add_tx (s := { s' with toks := s'.toks + 1 }) hS' hlen fun b h' hS2 sb => ?_
    rw [← txAll_take hx] at hS2
    refine wpAny_pure ⟨plainId_quiet F.plain_set_update_loop _, ih (i + 1) _ (by omega) hlt (W.frame _ s' _ _ hst' (Nat.le_add_right _ _) fun b hb o e => ?_) hS2 fun s'' hm'' hS'' => ?_⟩
    · rw [sb.2 b (fun h : b = S => hSf (by rw [← h]; exact hb))]
      exact e
    · refine hR s'' (Moved.trans W.gtrans ((hm.mono hsub).then_heap (Nat.le_add_right _ _) fun b o hb e => ?_) hm'') hS''
      rw [sb.2 b (fun h : b = S => hb (by rw [h]; exact List.mem_cons_self))]
      exact e
theorem walk_sq (hh : A.handled = none) (t : Bool) (it l : Addr) (hne : l ≠ it) (items : Array Value) : PySem.Walks P w A it [it, l] [it] items.size (fun i v => items[i]? = some v) (fun i h => HIt t h it l i ∧ HSq t h l items) := by
  cases t with
  | true => exact PySem.Walks.tuple hh it l hne items
  | false => exact PySem.Walks.list hh it l hne items
set_option maxHeartbeats 3200000 in
/-- set(xs), xs a list or a tuple of texts -/
theorem call_set_tx {t : Bool} {l : Addr} {items : Array Value} {xs : List Str} {Q : Value → Shared → Prop} (hh : A.handled = none) (hl : HSq t s.heap l items) (hi : StrsAre items.toList xs) (hb : xs.length + 1 < scanBound)
    (h : ∀ (h' : Heap) (tk : Nat), TxR P w h' s.heap.objs.size (txAll xs []) → (∀ b o, s.heap.get? b = some o → h'.get? b = some o) → Q (.ref s.heap.objs.size) { s with heap := h', toks := tk }) :
    wpAny (model P w) A (call (.type "set") [.ref l]) Q E s := by
  have hlen := hi.length
  obtain ⟨c, tl, hmro⟩ := F.called_set.mro
  have hmade := F.called_set.made
  have hsub := F.called_set.sub
  refine wpAny_call (codeAny_of_tree ?_)
  show wpAny _ _ (callAny (.type "set") _) _ _ _
  refine wpAny_pure ⟨Code.quiet_builtin _ (by decide +kernel), codeAny_builtin F.entry_type_call ?_⟩
  rw [Around.under_plain (weight_type_call_type "set" [.ref l] []) rfl]
  have h1 := F.called_set.notType
  have h2 := F.called_set.canCreate
  have hct := F.typeCall_set_1 (.ref l)
  repeat (any_goals (first | assumption | wp_step))
  refine codeAny_mono (code_set_led1 (.ref l) (E := E) (Q₁ := fun obj s₁ => obj = .ref s.heap.objs.size ∧ s₁ = { s with heap := s.heap.push { cls := .type "set", dict := none, data := .set #[] 0 (.fresh 0 0 (!w.params.followText "set-order")) } }) ⟨rfl, rfl⟩) fun r s₁ hr => ?_
  match r, hr with
  | .error e, hr => exact hr
  | .ok .next, hr => exact hr.elim
  | .ok .brk, hr => exact hr.elim
  | .ok .cont, hr => exact hr.elim
  | .ok (.ret obj), hr =>
    obtain ⟨rfl, rfl⟩ := hr
    have hS : (s.heap.push ({ cls := .type "set", dict := none, data := .set #[] 0 (.fresh 0 0 (!w.params.followText "set-order")) } : Obj)).get? s.heap.objs.size = some ({ cls := .type "set", dict := none, data := .set #[] 0 (.fresh 0 0 (!w.params.followText "set-order")) } : Obj) := Heap.get?_push_size _ rfl
    have hT : Shared.TypeIs { s with heap := s.heap.push ({ cls := .type "set", dict := none, data := .set #[] 0 (.fresh 0 0 (!w.params.followText "set-order")) } : Obj) } (.ref s.heap.objs.size) "set" := ⟨_, hS, rfl⟩
    have hli := F.called_set.init.lookup
    have hbi := F.called_set.init.bind (.ref s.heap.objs.size)
    repeat (any_goals (first | assumption | wp_step))
    refine codeAny_mono (codeAny_call_builtin (R := wants (fun r s₂ => r = .none ∧ ∃ h' tk, s₂ = { s with heap := h', toks := tk } ∧ TxR P w h' s.heap.objs.size (txAll xs []) ∧ (∀ b o, s.heap.get? b = some o → h'.get? b = some o)) E) F.called_set.init.plain F.entry_set_init (check_set_init_1 hT ?_)) fun r₂ s₂ hr₂ => ?_
    · have hll : l < s.heap.objs.size := hSq_lt hl
      have hlk : HSq t (s.heap.push ({ cls := .type "set", dict := none, data := .set #[] 0 (.fresh 0 0 (!w.params.followText "set-order")) } : Obj)) l items := (begins_sq t l items).keeps _ _ hl fun b o e => Heap.get?_push_of_some _ e
      have hh3 : A.in1.in1.in1.handled = none := by simp [hh]
      have hne : (Value.type (if t then "tuple" else "list") == Value.type "dict") = false := by cases t <;> decide
      have hval : ∀ (i : Nat) (v : Value), items[i]? = some v → ∃ x u, xs[i]? = some x ∧ v = .str x u := fun i v hv => by
        obtain ⟨y, e1, e2⟩ := vals_at (its := items.toList) (vals_of_strs hi) (by simpa using hv)
        rw [List.getElem?_map] at e1
        cases ex : xs[i]? with
        | none => rw [ex] at e1; cases e1
        | some x =>
          rw [ex] at e1
          cases e1
          obtain ⟨u, rfl⟩ := e2
          exact ⟨x, u, rfl, rfl⟩
      have hisz : items.size = xs.length := by rw [← Array.length_toList, hlen]
      have hz1 : (s.heap.push ({ cls := .type "set", dict := none, data := .set #[] 0 (.fresh 0 0 (!w.params.followText "set-order")) } : Obj)).objs.size = s.heap.objs.size + 1 := by rw [Heap.size_push]
      have fin : ∀ {tt : Nat} {it : Obj}, it = itO t l → codeAny (model P w) A.in1.in1 (.builtin "set.update.loop" ⟨[.ref s.heap.objs.size, .ref (s.heap.push ({ cls := .type "set", dict := none, data := .set #[] 0 (.fresh 0 0 (!w.params.followText "set-order")) } : Obj)).objs.size], []⟩) (fun r s₂ => match r with
          | .ok (.ret .none) => ∃ h' tk, s₂ = { s with heap := h', toks := tk } ∧ TxR P w h' s.heap.objs.size (txAll xs []) ∧ (∀ b o, s.heap.get? b = some o → h'.get? b = some o)
          | _ => False) { s with heap := (s.heap.push ({ cls := .type "set", dict := none, data := .set #[] 0 (.fresh 0 0 (!w.params.followText "set-order")) } : Obj)).push it } := fun {tt it} hit => by
        subst hit
        have hneI : l ≠ (s.heap.push ({ cls := .type "set", dict := none, data := .set #[] 0 (.fresh 0 0 (!w.params.followText "set-order")) } : Obj)).objs.size := by
          rw [hz1]
          exact Nat.ne_of_lt (Nat.lt_succ_of_lt hll)
        have hSf : s.heap.objs.size ∉ [(s.heap.push ({ cls := .type "set", dict := none, data := .set #[] 0 (.fresh 0 0 (!w.params.followText "set-order")) } : Obj)).objs.size, l] := by
          rw [hz1]
          exact not2 (Nat.ne_of_lt (Nat.lt_succ_self _)) (Nat.ne_of_gt hll)
        refine update_txs ((walk_sq hh3 t _ l hneI items).toS) s.heap.objs.size hSf xs hisz hb hval (items.size - 0) 0 _ (by omega) (Nat.zero_le _) ⟨hIt_new (Heap.get?_push_size _ rfl), (begins_sq t l items).keeps _ _ hlk fun b o e => Heap.get?_push_of_some _ e⟩ ?_ fun s' hm hS' => ?_
        · refine txR_fresh ?_
          exact Heap.get?_push_of_some _ hS
        · obtain ⟨h', g2, d', tk', os'⟩ := s'
          have eg : g2 = s.gens := hm.gens
          have ed : d' = s.drawn := hm.drawn
          have eo : os' = s.os := hm.os
          subst eg ed eo
          refine ⟨h', tk', rfl, hS', fun b o e => hm.heap b o ?_ (Heap.get?_push_of_some _ (Heap.get?_push_of_some _ e))⟩
          have hlt := Heap.lt_size e
          rw [hz1]
          exact not2 (Nat.ne_of_lt hlt) (Nat.ne_of_lt (Nat.lt_succ_of_lt hlt))
      unfold Builtin.«set.__init__» noKeywords Builtin.Frozenset.updateFrom
      generalize hPI : pyIter = PI
      cases t with
      | true =>
        obtain ⟨⟨ocls, odict, odata, oslots⟩, hol, hcl, nl, hdl⟩ := id hlk
        simp only at hcl hdl
        subst hcl hdl
        have hsls := F.sub_tuple_set
        have hslf := F.sub_tuple_frozenset
        have hl1 : (s.heap.push ({ cls := .type "set", dict := none, data := .set #[] 0 (.fresh 0 0 (!w.params.followText "set-order")) } : Obj)).IsTuple l items := hlk
        wp_walk
        subst hPI
        refine wpAny_pyIter_tuple (s := { s with heap := s.heap.push ({ cls := .type "set", dict := none, data := .set #[] 0 (.fresh 0 0 (!w.params.followText "set-order")) } : Obj) }) hl1 ?_
        refine wpAny_bind (wpAny_runValue ?_)
        refine codeAny_mono (fin (tt := 0) rfl) fun r s' hr => ?_
        match r, hr with
        | .ok (.ret .none), ⟨h', tk, e, hS', k'⟩ =>
          refine wpAny_pure ?_
          show wpAny _ _ (ret Value.none) _ _ _
          exact wpAny_pure ⟨rfl, h', tk, e, hS', k'⟩
      | false =>
        obtain ⟨⟨ocls, odict, odata, oslots⟩, hol, hcl, nl, hdl⟩ := id hlk
        simp only at hcl hdl
        subst hcl hdl
        have hsls := F.sub_list_set
        have hslf := F.sub_list_frozenset
        have hl1 : (s.heap.push ({ cls := .type "set", dict := none, data := .set #[] 0 (.fresh 0 0 (!w.params.followText "set-order")) } : Obj)).IsList l items := hlk
        wp_walk
        subst hPI
        refine wpAny_pyIter_list (s := { s with heap := s.heap.push ({ cls := .type "set", dict := none, data := .set #[] 0 (.fresh 0 0 (!w.params.followText "set-order")) } : Obj) }) hl1 ?_
        refine wpAny_bind (wpAny_runValue ?_)
        refine codeAny_mono (fin (tt := 0) rfl) fun r s' hr => ?_
        match r, hr with
        | .ok (.ret .none), ⟨h', tk, e, hS', k'⟩ =>
          refine wpAny_pure ?_
          show wpAny _ _ (ret Value.none) _ _ _
          exact wpAny_pure ⟨rfl, h', tk, e, hS', k'⟩
    · match r₂, hr₂ with
      | .error e, hr₂ => exact hr₂
      | .ok .next, hr₂ => exact hr₂.elim
      | .ok .brk, hr₂ => exact hr₂.elim
      | .ok .cont, hr₂ => exact hr₂.elim
      | .ok (.ret r), hr₂ =>
        obtain ⟨rfl, h', tk, rfl, hS', hk'⟩ := hr₂
        repeat (any_goals (first | assumption | wp_step))
        exact h _ _ hS' hk'
end
end EV
/-! EvA: values, cells, results, the values' own operations. -/
namespace EV
open PySem

/-- a value; ref: a cell that may change; the others never change -/
inductive Val
  | non | bl (b : Bool) | int (i : Int) | str (s : List Nat)
  | tup (xs : List Val) | lst (xs : List Val) | dct (kvs : List (Val × Val))
  | obj (C : Str) (fs : List (Str × Val)) | ref (a : Nat) | glo (x : Str)
  | exn (C : Str) (fs : List (Str × Val)) | scr (xs : List Int)
instance : Inhabited Val := ⟨.non⟩
inductive Ob
  | lst (xs : List Val) | dct (kvs : List (Val × Val)) | ins (C : Str) (fs : List (Str × Val))
abbrev Cells := List Ob
structure Exn where
  C : Str
  fs : List (Str × Val)
inductive R (α : Type) | ok (a : α) (cs : Cells) | exc (x : Exn) (cs : Cells) | bad
def R.bind {α β : Type} (r : R α) (k : α → Cells → R β) : R β := match r with
  | .ok a cs => k a cs
  | .exc x cs => .exc x cs
  | .bad => .bad
def R.map {α β : Type} (r : R α) (k : α → β) : R β := r.bind fun a cs => .ok (k a) cs
def R.of {α : Type} (o : Option α) (cs : Cells) : R α := match o with
  | some a => .ok a cs
  | none => .bad
/-- only if b -/
def R.iff {α : Type} (b : Bool) (r : R α) : R α := match b with
  | true => r
  | false => .bad

/-! ### no cell in a value -/
mutual
def Val.pure : Val → Bool
  | .tup xs => Val.pureL xs
  | .lst xs => Val.pureL xs
  | .dct kvs => Val.pureD kvs
  | .obj _ fs => Val.pureF fs
  | .ref _ => false
  | .exn _ _ => false
  | .non => true
  | .bl _ => true
  | .int _ => true
  | .str _ => true
  | .glo _ => true
  | .scr _ => true
def Val.pureL : List Val → Bool
  | [] => true
  | x :: xs => x.pure && Val.pureL xs
def Val.pureD : List (Val × Val) → Bool
  | [] => true
  | (k, v) :: r => k.pure && (v.pure && Val.pureD r)
def Val.pureF : List (Str × Val) → Bool
  | [] => true
  | (_, v) :: r => v.pure && Val.pureF r
end

/-! ### all cells of a value below b -/
mutual
def Val.undr (b : Nat) : Val → Bool
  | .tup xs => Val.undrL b xs
  | .lst xs => Val.undrL b xs
  | .dct kvs => Val.undrD b kvs
  | .obj _ fs => Val.undrF b fs
  | .ref a => Nat.blt a b
  | .exn _ fs => Val.undrF b fs
  | .non => true
  | .bl _ => true
  | .int _ => true
  | .str _ => true
  | .glo _ => true
  | .scr _ => true
def Val.undrL (b : Nat) : List Val → Bool
  | [] => true
  | x :: xs => x.undr b && Val.undrL b xs
def Val.undrD (b : Nat) : List (Val × Val) → Bool
  | [] => true
  | (k, v) :: r => k.undr b && (v.undr b && Val.undrD b r)
def Val.undrF (b : Nat) : List (Str × Val) → Bool
  | [] => true
  | (_, v) :: r => v.undr b && Val.undrF b r
end
def Ob.undr (b : Nat) : Ob → Bool
  | .lst xs => Val.undrL b xs
  | .dct kvs => Val.undrD b kvs
  | .ins _ fs => Val.undrF b fs

/-! ### no error in a value -/
mutual
def Val.nox : Val → Bool
  | .tup xs => Val.noxL xs
  | .lst xs => Val.noxL xs
  | .dct kvs => Val.noxD kvs
  | .obj _ fs => Val.noxF fs
  | .ref _ => true
  | .exn _ _ => false
  | .non => true
  | .bl _ => true
  | .int _ => true
  | .str _ => true
  | .glo _ => true
  | .scr _ => true
def Val.noxL : List Val → Bool
  | [] => true
  | x :: xs => x.nox && Val.noxL xs
def Val.noxD : List (Val × Val) → Bool
  | [] => true
  | (k, v) :: r => k.nox && (v.nox && Val.noxD r)
def Val.noxF : List (Str × Val) → Bool
  | [] => true
  | (_, v) :: r => v.nox && Val.noxF r
end
def Ob.nox : Ob → Bool
  | .lst xs => Val.noxL xs
  | .dct kvs => Val.noxD kvs
  | .ins _ fs => Val.noxF fs

/-! ### a value with its cells from base on frozen -/
mutual
def frz (base : Nat) (cs : Cells) : Nat → Val → Option Val
  | 0, v => if v.pure then some v else none
  | n + 1, v => if v.pure then some v else match v with
    | .tup xs => (frzL base cs n xs).map .tup
    | .lst xs => (frzL base cs n xs).map .lst
    | .dct kvs => (frzD base cs n kvs).map .dct
    | .obj C fs => (frzF base cs n fs).map (.obj C)
    | .ref a => if a < base then some (.ref a) else match cs[a]? with
      | some (.lst xs) => (frzL base cs n xs).map .lst
      | some (.dct kvs) => (frzD base cs n kvs).map .dct
      | some (.ins C fs) => (frzF base cs n fs).map (.obj C)
      | none => none
    | _ => none
def frzL (base : Nat) (cs : Cells) : Nat → List Val → Option (List Val)
  | _, [] => some []
  | 0, _ :: _ => none
  | n + 1, x :: xs => match frz base cs n x, frzL base cs n xs with
    | some y, some ys => some (y :: ys)
    | _, _ => none
def frzD (base : Nat) (cs : Cells) : Nat → List (Val × Val) → Option (List (Val × Val))
  | _, [] => some []
  | 0, _ :: _ => none
  | n + 1, (k, x) :: xs => match k.pure, frz base cs n x, frzD base cs n xs with
    | true, some y, some ys => some ((k, y) :: ys)
    | _, _, _ => none
def frzF (base : Nat) (cs : Cells) : Nat → List (Str × Val) → Option (List (Str × Val))
  | _, [] => some []
  | 0, _ :: _ => none
  | n + 1, (k, x) :: xs => match frz base cs n x, frzF base cs n xs with
    | some y, some ys => some ((k, y) :: ys)
    | _, _ => none
end
/-- deep enough for all lists here -/
def frzN : Nat := 1000000

/-! ### == of data -/
def b2n (b : Bool) : Int := if b then 1 else 0
mutual
def Val.eqv : Val → Val → Bool
  | .non, .non => true
  | .bl a, .bl b => a == b
  | .bl a, .int j => b2n a == j
  | .int i, .bl b => i == b2n b
  | .int i, .int j => i == j
  | .str x, .str y => x == y
  | .lst xs, .lst ys => Val.eqvL xs ys
  | .tup xs, .tup ys => Val.eqvL xs ys
  | _, _ => false
def Val.eqvL : List Val → List Val → Bool
  | [], [] => true
  | x :: xs, y :: ys => x.eqv y && Val.eqvL xs ys
  | _, _ => false
end
/-! data that == is said of: none, bools, ints, texts, lists, tuples, at most d deep -/
mutual
def Val.data : Nat → Val → Bool
  | _, .non => true
  | _, .bl _ => true
  | _, .int _ => true
  | _, .str s => s.all (Nat.blt · 1114112)
  | n + 1, .lst xs => Val.dataL n xs
  | n + 1, .tup xs => Val.dataL n xs
  | _, _ => false
def Val.dataL : Nat → List Val → Bool
  | _, [] => true
  | n, x :: xs => Val.data n x && Val.dataL n xs
end
def deep : Nat := 60
mutual
def Val.py : Val → PyData
  | .bl b => .bool b
  | .int i => .int i
  | .str s => .str ⟨s.toArray⟩
  | .lst xs => .list (Val.pyL xs)
  | .tup xs => .tuple (Val.pyL xs)
  | _ => .none
def Val.pyL : List Val → List PyData
  | [] => []
  | x :: xs => x.py :: Val.pyL xs
end
abbrev tS (s : List Nat) : Str := ⟨s.toArray⟩
def sizeOk (n : Nat) : Bool := Nat.ble n 16777216
/-- a key of a dict -/
def Val.key : Val → Bool
  | .str _ => true
  | .int _ => true
  | _ => false
def Val.keyEq : Val → Val → Bool
  | .str s, .str t => s == t
  | .int s, .int t => s == t
  | _, _ => false
def dGet (k : Val) : List (Val × Val) → Option Val
  | [] => none
  | (x, v) :: r => if x.keyEq k then some v else dGet k r
def dPut (k v : Val) (kvs : List (Val × Val)) : List (Val × Val) :=
  if (kvs.any fun p => p.1.keyEq k) = true then kvs.map (fun p => if p.1.keyEq k = true then (p.1, v) else p) else kvs ++ [(k, v)]
def dDel (k : Val) (kvs : List (Val × Val)) : List (Val × Val) := kvs.filter fun p => !p.1.keyEq k
def fPut (f : Str) (v : Val) : List (Str × Val) → List (Str × Val)
  | [] => [(f, v)]
  | (g, u) :: r => if g = f then (g, v) :: r else (g, u) :: fPut f v r

/-! ### lists by place -/
def ixOf (n : Nat) (i : Int) : Option Nat := if 0 ≤ i then (if i < n then some i.toNat else none) else if -(n : Int) ≤ i then some (i + n).toNat else none
def atOf {α : Type} (xs : List α) (i : Int) : Option α := (ixOf xs.length i).bind fun j => xs[j]?
/-- where a slice's end lies -/
def cutAt (n d : Nat) : Option Int → Nat
  | none => d
  | some i => if 0 ≤ i then min i.toNat n else (i + n).toNat
def cutOf {α : Type} (xs : List α) (lo hi : Option Int) : List α := (xs.drop (cutAt xs.length 0 lo)).take (cutAt xs.length xs.length hi - cutAt xs.length 0 lo)

/-! ### texts -/
/-- cut at the first c -/
def cutC (c : Nat) : List Nat → Option (List Nat × List Nat)
  | [] => none
  | x :: r => if x = c then some ([], r) else (cutC c r).map fun p => (x :: p.1, p.2)
def splitC (c : Nat) : List Nat → List (List Nat)
  | [] => [[]]
  | x :: r => if x = c then [] :: splitC c r else match splitC c r with
    | [] => [[x]]
    | h :: t => (x :: h) :: t
def ltS : List Nat → List Nat → Bool
  | _, [] => false
  | [], _ :: _ => true
  | x :: xs, y :: ys => if x < y then true else if y < x then false else ltS xs ys
def insS (x : List Nat) : List (List Nat) → List (List Nat)
  | [] => [x]
  | y :: r => if ltS y x then y :: insS x r else x :: y :: r
def sortS : List (List Nat) → List (List Nat)
  | [] => []
  | x :: r => insS x (sortS r)
/-- each once -/
def uniS : List (List Nat) → List (List Nat)
  | [] => []
  | x :: r => if r.contains x then uniS r else x :: uniS r
def joinS (sep : List Nat) : List (List Nat) → List Nat
  | [] => []
  | [x] => x
  | x :: r => x ++ sep ++ joinS sep r
def strsOf : List Val → Option (List (List Nat))
  | [] => some []
  | .str s :: r => (strsOf r).map (s :: ·)
  | _ :: _ => none
def intsOf : List Val → Option (List Int)
  | [] => some []
  | .int s :: r => (intsOf r).map (s :: ·)
  | _ :: _ => none
def blsOf : List Val → Option (List Bool)
  | [] => some []
  | .bl s :: r => (blsOf r).map (s :: ·)
  | _ :: _ => none
end EV
/-! EvB: the core's syntax and its evaluator. -/
namespace EV
open PySem

abbrev LSt := List (Option Val)
/-- a target: a name, names, names and a rest -/
inductive Tg
  | nm (i : Nat) | tp (is : List Nat) | st (is : List Nat) (j : Nat)
/-- built-in functions, built-in types' methods, types -/
inductive Bn
  | len | all | tuple | list | sorted | int | abs | max | min | sum | repr | str | dict
  deriving DecidableEq
inductive Mn
  | append | extend | pop | get | partition | rpartition | split | startswith | endswith | rstrip | index | join | upper
  deriving DecidableEq
inductive Ty
  | str | int | bool | tuple | list | cls (x : Str)
mutual
inductive E
  | var (i : Nat) | val (v : Val) | glo (x : Str)
  | tup (es : Es) | lst (es : Es)
  | dct (ps : Es)
  | cell (e : E)
  | dmg (m k v : E)
  | bin (op : Operator) (a b : E) | neg (a : E)
  | not (a : E) | and (a b : E) | or (a b : E) | ite (c a b : E)
  | cmp (op : CmpOp) (a b : E) | chn (o1 o2 : CmpOp) (a b c : E)
  | idx (o i : E) | slc (o : E) (lo hi : Oe) | rev (o : E)
  | att (o : E) (f : Str)
  | cll (f : Str) (es : Es) (ks : List Str) (kes : Es)
  | clv (f : E) (es : Es)
  | mth (o : E) (m : Str) (es : Es) (ks : List Str) (kes : Es)
  | bm (o : E) (m : Mn) (es : Es)
  | blt (b : Bn) (es : Es)
  | isi (e : E) (ts : List Ty)
  | xat (o : E) (f : Str) | isx (e : E) (ts : List Ty)
  | sst (e : E) | lns (e : E) | srk (e : E) (j : Nat)
  | lc (el : E) (own : List Nat) (c : Cl)
  | dc (ke ve : E) (own : List Nat) (c : Cl)
  | ssc (el : E) (own : List Nat) (c : Cl)
  | fst (es : Es)
inductive Es
  | nil | cons (e : E) (r : Es) | star (e : E) (r : Es)
inductive Oe
  | no | yes (e : E)
inductive It
  | seq (e : E) | rng1 (b : E) | rng2 (a b : E) | enu (e : E) | zip2 (a b : E) | zip3 (a b c : E) | vals (e : E) | items (e : E)
inductive Cl
  | one (t : Tg) (it : It) (c : Oe) | more (t : Tg) (it : It) (c : Oe) (r : Cl)
end
mutual
inductive S
  | exp (e : E) | asg (t : Tg) (e : E) | par (is : List Nat) (es : Es)
  | setA (o : E) (f : Str) (e : E) | setI (o i e : E) | augA (o : E) (f : Str) (op : Operator) (e : E)
  | delS (o lo : E) | ret (e : E) | retN
  | ite (c : E) (a b : Ss) | whl (c : E) (b : Ss) | for_ (t : Tg) (it : It) (b : Ss)
  | rse (C : Str) (es : Es) | try_ (b : Ss) (hs : Hs) | brk | cnt | pss
inductive Ss
  | nil | cons (s : S) (r : Ss)
inductive Hs
  | nil | cons (C : Str) (i : Option Nat) (b : Ss) (r : Hs)
end
/-- a def: parameters, defaults of the last ones, all names, body; keep: its cells stay behind it -/
structure Def where
  at_ : Str × Option Str
  ps : List Str
  dfl : List Val
  n : Nat
  body : Ss
  keep : Bool
structure ClsI where
  meths : List (Str × Str)
  flds : List Str
structure ExcI where
  fields : List Str
  bases : List Str
structure Gl where
  consts : List (Str × Val)
  defs : List (Str × Def)
  clss : List (Str × ClsI)
  excs : List (Str × ExcI)

inductive SR
  | nx (s : LSt) (cs : Cells) | rt (v : Val) (cs : Cells) | bk (s : LSt) (cs : Cells) | ct (s : LSt) (cs : Cells)
  | exc (x : Exn) (s : LSt) (cs : Cells) | bad

/-! ### what stands in a value -/
def lstOf (cs : Cells) : Val → Option (List Val)
  | .lst xs => some xs
  | .ref a => match cs[a]? with
    | some (.lst xs) => some xs
    | _ => none
  | _ => none
def tupOf : Val → Option (List Val)
  | .tup xs => some xs
  | _ => none
def seqOf (cs : Cells) (v : Val) : Option (List Val) := match tupOf v with
  | some xs => some xs
  | none => lstOf cs v
def dctOf (cs : Cells) : Val → Option (List (Val × Val))
  | .dct xs => some xs
  | .ref a => match cs[a]? with
    | some (.dct xs) => some xs
    | _ => none
  | _ => none
/-- an instance: its class and fields -/
def insOf (cs : Cells) : Val → Option (Str × List (Str × Val))
  | .obj C fs => some (C, fs)
  | .ref a => match cs[a]? with
    | some (.ins C fs) => some (C, fs)
    | _ => none
  | _ => none
/-- a list's cell read -/
def topV (cs : Cells) (v : Val) : Val := match lstOf cs v with
  | some xs => .lst xs
  | none => v
def truthy (cs : Cells) : Val → Option Bool
  | .non => some false
  | .bl b => some b
  | .int i => some (i != 0)
  | .str s => if sizeOk s.length then some (!s.isEmpty) else none
  | .tup xs => some (!xs.isEmpty)
  | .dct xs => some (!xs.isEmpty)
  | .lst xs => some (!xs.isEmpty)
  | .ref a => match cs[a]? with
    | some (.lst xs) => some (!xs.isEmpty)
    | some (.dct xs) => some (!xs.isEmpty)
    | _ => none
  | _ => none
def asBl : Val → Option Bool
  | .bl b => some b
  | _ => none
def asInt : Val → Option Int
  | .int i => some i
  | _ => none

/-! ### operators -/
def bits (i : Int) : Nat := i.natAbs.log2
def opAdd (cs : Cells) (v u : Val) : Option Val := match v, u with
  | .int i, .int j => some (.int (i + j))
  | .str x, .str y => if sizeOk (x.length + y.length) then some (.str (x ++ y)) else none
  | .tup x, .tup y => if sizeOk (x.length + y.length) then some (.tup (x ++ y)) else none
  | _, _ => match lstOf cs v, lstOf cs u with
    | some x, some y => if sizeOk (x.length + y.length) then some (.lst (x ++ y)) else none
    | _, _ => none
def repN (n : Nat) (xs : List α) : List α := match n with
  | 0 => []
  | n + 1 => xs ++ repN n xs
def opMul (v u : Val) : Option Val := match v, u with
  | .int i, .int j => if bits i + bits j < 1000000 then some (.int (i * j)) else none
  | .lst xs, .int k => if sizeOk (xs.length * k.toNat) && decide (k < 1000000) && decide (-1000000 < k) then some (.lst (repN k.toNat xs)) else none
  | _, _ => none
def opBin (cs : Cells) (op : Operator) (v u : Val) : Option Val := match op with
  | .Add => opAdd cs v u
  | .Mult => opMul v u
  | .Sub => match v, u with
    | .int i, .int j => some (.int (i - j))
    | _, _ => none
  | .Mod => match v, u with
    | .int i, .int j => if 0 < j then some (.int (i % j)) else none
    | _, _ => none
  | .FloorDiv => match v, u with
    | .int i, .int j => if 0 < j ∧ bits j < 9000 then some (.int (i / j)) else none
    | _, _ => none
  | .Pow => match v, u with
    | .int i, .int j => if 0 ≤ j ∧ j ≤ 100 ∧ bits i < 10000 then some (.int (i ^ j.toNat)) else none
    | _, _ => none
  | _ => none
def hasV (x : Val) : List Val → Bool
  | [] => false
  | y :: r => y.eqv x || hasV x r
def opEq (cs : Cells) (v u : Val) : Option Bool :=
  if (topV cs v).data deep && (topV cs u).data deep then some ((topV cs v).eqv (topV cs u)) else none
def opIn (cs : Cells) (v u : Val) : Option Bool := match u with
  | .str z => match v with
    | .str [c] => some (z.contains c)
    | _ => none
  | _ => match seqOf cs u with
    | some xs => if v.data deep && Val.dataL deep xs then some (hasV v xs) else none
    | none => match dctOf cs u with
      | some kvs => if v.key then some (dGet v kvs).isSome else none
      | none => none
def opCmp (cs : Cells) (op : CmpOp) (v u : Val) : Option Bool := match op with
  | .Eq => opEq cs v u
  | .NotEq => (opEq cs v u).map (!·)
  | .Lt => match v, u with
    | .int i, .int j => some (decide (i < j))
    | .str x, .str y => some (ltS x y)
    | _, _ => none
  | .LtE => match v, u with
    | .int i, .int j => some (decide (i ≤ j))
    | _, _ => none
  | .Gt => match v, u with
    | .int i, .int j => some (decide (j < i))
    | _, _ => none
  | .GtE => match v, u with
    | .int i, .int j => some (decide (j ≤ i))
    | _, _ => none
  | .In => opIn cs v u
  | .NotIn => (opIn cs v u).map (!·)
  | .Is => match v, u with
    | .non, .non => some true
    | .ref _, .non => some false
    | .bl _, .non => some false
    | .int _, .non => some false
    | .str _, .non => some false
    | .tup _, .non => some false
    | .lst _, .non => some false
    | .dct _, .non => some false
    | .obj _ _, .non => some false
    | .scr _, .non => some false
    | _, _ => none
  | .IsNot => match v, u with
    | .non, .non => some false
    | .ref _, .non => some true
    | .bl _, .non => some true
    | .int _, .non => some true
    | .str _, .non => some true
    | .tup _, .non => some true
    | .lst _, .non => some true
    | .dct _, .non => some true
    | .obj _ _, .non => some true
    | .scr _, .non => some true
    | _, _ => none
def opIdx (cs : Cells) (o i : Val) : Option Val := match dctOf cs o with
  | some kvs => if i.key then dGet i kvs else none
  | none => match i with
    | .int k => match o with
      | .str s => if sizeOk s.length then (atOf s k).map fun c => .str [c] else none
      | .scr xs => (atOf xs k).map .int
      | _ => match seqOf cs o with
        | some xs => atOf xs k
        | none => none
    | _ => none
def opSlc (cs : Cells) (o : Val) (lo hi : Option Int) : Option Val := match o with
  | .str s => if sizeOk s.length then some (.str (cutOf s lo hi)) else none
  | .tup xs => some (.tup (cutOf xs lo hi))
  | _ => (lstOf cs o).map fun xs => .lst (cutOf xs lo hi)
def opRev (cs : Cells) (o : Val) : Option Val := match o with
  | .tup xs => some (.tup xs.reverse)
  | _ => (lstOf cs o).map fun xs => .lst xs.reverse

/-! ### built-in functions -/
def natStr : Nat → Nat → List Nat
  | 0, _ => []
  | f + 1, n => if n < 10 then [48 + n] else natStr f (n / 10) ++ [48 + n % 10]
def bltV (cs : Cells) (b : Bn) (vs : List Val) : Option Val := match b with
  | .len => match vs with
    | [.str s] => if sizeOk s.length then some (.int s.length) else none
    | [.scr xs] => some (.int xs.length)
    | [v] => match seqOf cs v with
      | some xs => some (.int xs.length)
      | none => (dctOf cs v).map fun kvs => .int kvs.length
    | _ => none
  | .all => match vs with
    | [v] => ((lstOf cs v).bind blsOf).map fun bs => .bl (bs.all id)
    | _ => none
  | .tuple => match vs with
    | [v] => (seqOf cs v).map .tup
    | _ => none
  | .list => match vs with
    | [v] => (seqOf cs v).map .lst
    | _ => none
  | .sorted => match vs with
    | [v] => match lstOf cs v with
      | some xs => match strsOf xs with
        | some ss => if ss.length < 64 then some (.lst ((sortS ss).map .str)) else none
        | none => none
      | none => match dctOf cs v with
        | some kvs => match strsOf (kvs.map (·.1)) with
          | some ss => if ss.length < 64 then some (.lst ((sortS ss).map .str)) else none
          | none => none
        | none => none
    | _ => none
  | .int => match vs with
    | [.int i] => some (.int i)
    | [.bl b] => some (.int (b2n b))
    | _ => none
  | .abs => match vs with
    | [.int i] => some (.int (if i < 0 then -i else i))
    | _ => none
  | .max => match vs with
    | [.int i, .int j] => some (.int (if j > i then j else i))
    | _ => none
  | .min => match vs with
    | [.int i, .int j] => some (.int (if j < i then j else i))
    | _ => none
  | .sum => match vs with
    | [v] => ((lstOf cs v).bind intsOf).map fun is => .int is.sum
    | _ => none
  | .repr => match vs with
    | [v] => if (topV cs v).data deep && (topV cs v).py.showable && sizeOk (topV cs v).py.shown.length then some (.str (topV cs v).py.shown.cps.toList) else none
    | _ => none
  | .str => match vs with
    | [.int i] => if bits i < 1920 then some (.str (Str.ofString (toString i)).cps.toList) else none
    | [.str s] => some (.str s)
    | _ => none
  | _ => none
/-- isinstance: a value's type, built in or own -/
def subT (a b : String) : Bool := a == b || (a == "bool" && b == "int")
def tyOfV (cs : Cells) : Val → Option (Sum String Str)
  | .non => some (.inl "NoneType")
  | .bl _ => some (.inl "bool")
  | .int _ => some (.inl "int")
  | .str _ => some (.inl "str")
  | .tup _ => some (.inl "tuple")
  | .lst _ => some (.inl "list")
  | .dct _ => some (.inl "dict")
  | .obj C _ => some (.inr C)
  | .ref a => match cs[a]? with
    | some (.lst _) => some (.inl "list")
    | some (.dct _) => some (.inl "dict")
    | some (.ins C _) => some (.inr C)
    | none => none
  | _ => none
def Ty.nm : Ty → Option String
  | .str => some "str"
  | .int => some "int"
  | .bool => some "bool"
  | .tuple => some "tuple"
  | .list => some "list"
  | .cls _ => none
def isiOne (G : Gl) (cs : Cells) (v : Val) (t : Ty) : Option Bool := match tyOfV cs v with
  | some (.inl n) => match t with
    | .cls C => if (G.clss.lookup C).isSome then some false else none
    | t => t.nm.map (subT n)
  | some (.inr C) => if (G.clss.lookup C).isSome then (match t with
    | .cls D => if (G.clss.lookup D).isSome then some (C == D) else none
    | _ => some false) else none
  | none => none
/-- of an error -/
def isxOne (G : Gl) (v : Val) (t : Ty) : Option Bool := match t with
  | .cls t => match v with
    | .exn C _ => match G.excs.lookup C with
      | some i => if (G.excs.lookup t).isSome then some (i.bases.contains t) else none
      | none => none
    | _ => none
  | _ => none
def isxAny (G : Gl) (v : Val) : List Ty → Option Bool
  | [] => some false
  | t :: r => match isxOne G v t with
    | some true => some true
    | some false => isxAny G v r
    | none => none
def isiAny (G : Gl) (cs : Cells) (v : Val) : List Ty → Option Bool
  | [] => some false
  | t :: r => match isiOne G cs v t with
    | some true => some true
    | some false => isiAny G cs v r
    | none => none

/-! ### methods of built-in types: the answer, and the cells behind it -/
def ofS (s : Str) : Val := .str s.cps.toList
def joinV (s : List Nat) (xs : List Val) : Option Val := match strsOf xs with
  | some ss => if (ss.map (·.length)).sum + ss.length * s.length ≤ 16777216 then some (ofS (Txt.join (tS s) (ss.map tS))) else none
  | none => none
def strM (cs : Cells) (s : List Nat) (m : Mn) (vs : List Val) : Option Val := match m with
  | .partition => match vs with
    | [.str p] => if p.isEmpty then none else if sizeOk s.length then some (.tup [ofS (Txt.partition (tS s) (tS p)).1, ofS (Txt.partition (tS s) (tS p)).2.1, ofS (Txt.partition (tS s) (tS p)).2.2]) else none
    | _ => none
  | .split => match vs with
    | [.str p] => if p.isEmpty then none else if sizeOk (s.length + 2) then some (.lst ((Txt.split (tS s) (tS p)).map ofS)) else none
    | _ => none
  | .startswith => match vs with
    | [.str p] => some (.bl (Txt.startswith (tS s) (tS p)))
    | _ => none
  | .endswith => match vs with
    | [.str p] => some (.bl (Txt.endswith (tS s) (tS p)))
    | _ => none
  | .rstrip => match vs with
    | [.str p] => if sizeOk s.length then some (ofS (Txt.rstripChars (tS s) (tS p))) else none
    | _ => none
  | .index => match vs with
    | [.str p] => match Builtin.Str.occurrences (tS s) (tS p) 0 (tS s).length 1 with
      | i :: _ => some (.int (i : Nat))
      | [] => none
    | _ => none
  | .join => match vs with
    | [v] => match seqOf cs v with
      | some xs => joinV s xs
      | none => none
    | _ => none
  | _ => none
/-- cell a written: from the frame on anything, ahead of it what has no cells -/
def put (base a : Nat) (cs : Cells) (o : Ob) (ok : Bool) : R Val := R.iff (Nat.ble base a || ok) (.ok .non (cs.set a o))
/-- whose method it is -/
inductive MT | s | l | d
  deriving DecidableEq
def Mn.mt : Mn → MT
  | .append => .l
  | .extend => .l
  | .pop => .l
  | .get => .d
  | _ => .s
/-- the receiver's kind -/
def bmOk (cs : Cells) (v : Val) (m : Mn) : Bool := match m.mt with
  | .s => match v with
    | .str _ => true
    | _ => false
  | .l => match v with
    | .ref a => match cs[a]? with
      | some (.lst _) => true
      | _ => false
    | _ => false
  | .d => (dctOf cs v).isSome
def lstM (base a : Nat) (cs : Cells) (xs : List Val) (m : Mn) (vs : List Val) : R Val := match m with
  | .append => match vs with
    | [x] => R.iff (sizeOk (xs.length + 1)) (put base a cs (.lst (xs ++ [x])) x.pure)
    | _ => .bad
  | .extend => match vs with
    | [u] => match lstOf cs u with
      | some ys => R.iff (sizeOk (xs.length + ys.length)) (put base a cs (.lst (xs ++ ys)) (Val.pureL ys))
      | none => .bad
    | _ => .bad
  | .pop => match vs with
    | [] => match xs.getLast? with
      | some x => (put base a cs (.lst xs.dropLast) true).bind fun _ cs => .ok x cs
      | none => .bad
    | _ => .bad
  | _ => .bad
def dctM (cs : Cells) (kvs : List (Val × Val)) (m : Mn) (vs : List Val) : R Val := match m with
  | .get => match vs with
    | [k] => R.iff k.key (.ok ((dGet k kvs).getD .non) cs)
    | [k, d] => R.iff k.key (.ok ((dGet k kvs).getD d) cs)
    | _ => .bad
  | _ => .bad
def bltM (base : Nat) (cs : Cells) (v : Val) (m : Mn) (vs : List Val) : R Val := match m.mt with
  | .s => match v with
    | .str s => R.of (strM cs s m vs) cs
    | _ => .bad
  | .l => match v with
    | .ref a => match cs[a]? with
      | some (.lst xs) => lstM base a cs xs m vs
      | _ => .bad
    | _ => .bad
  | .d => match dctOf cs v with
    | some kvs => dctM cs kvs m vs
    | none => .bad
def setIx (base : Nat) (cs : Cells) (o i v : Val) : R Val := match o with
  | .ref a => match cs[a]? with
    | some (.lst xs) => match i with
      | .int k => match ixOf xs.length k with
        | some j => put base a cs (.lst (xs.set j v)) v.pure
        | none => .bad
      | _ => .bad
    | some (.dct kvs) => R.iff (i.key && sizeOk (kvs.length + 1)) (put base a cs (.dct (dPut i v kvs)) v.pure)
    | _ => .bad
  | _ => .bad
def setFd (G : Gl) (base : Nat) (cs : Cells) (o : Val) (f : Str) (v : Val) : R Val := match o with
  | .ref a => match cs[a]? with
    | some (.ins C fs) => match G.clss.lookup C with
      | some c => R.iff (c.flds.contains f && Nat.blt fs.length 900) (put base a cs (.ins C (fPut f v fs)) v.pure)
      | none => .bad
    | _ => .bad
  | _ => .bad

/-! ### names, targets -/
def getS (s : LSt) (i : Nat) : Option Val := match s[i]? with
  | some (some v) => some v
  | _ => none
def setAll : List Nat → List Val → LSt → Option LSt
  | [], [], s => some s
  | i :: is, v :: vs, s => setAll is vs (s.set i (some v))
  | _, _, _ => none
def wipeS (s : LSt) : List Nat → LSt
  | [] => s
  | v :: vs => (wipeS s vs).set v none
def setT (cs : Cells) (t : Tg) (v : Val) (s : LSt) : Option LSt := match t with
  | .nm i => some (s.set i (some v))
  | .tp is => (tupOf v).bind fun xs => setAll is xs s
  | .st is j => (tupOf v).bind fun xs => if is.length ≤ xs.length then
      setAll (is ++ [j]) (xs.take is.length ++ [.lst (xs.drop is.length)]) s else none

/-! ### calls -/
def lookAll {α : Type} (g : List (Str × α)) : List Str → Option (List α)
  | [] => some []
  | p :: ps => match g.lookup p, lookAll g ps with
    | some v, some vs => some (v :: vs)
    | _, _ => none
/-- arguments to parameters: by place, by name, by default -/
def byName {α : Type} (ps : List Str) (vs : List α) (ks : List Str) (kvs dfl : List α) : Option (List α) :=
  if Nat.ble vs.length ps.length && (Nat.ble dfl.length ps.length && (ks.all (fun k => ps.contains k && ((ps.zip vs).lookup k).isNone) && (decide ks.Nodup && Nat.beq ks.length kvs.length))) then
    lookAll (ps.zip vs ++ ks.zip kvs ++ (ps.drop (ps.length - dfl.length)).zip dfl) ps else none
/-- how a def is called: name, arguments, keywords, the frame of the caller, cells -/
abbrev CallF := Str → List Val → Nat → Cells → R Val
def callD (G : Gl) (cl : CallF) (base : Nat) (f : Str) (vs : List Val) (ks : List Str) (kvs : List Val) (cs : Cells) : R Val :=
  match G.defs.lookup f with
  | some d => match byName d.ps vs ks kvs d.dfl with
    | some ws => cl f ws base cs
    | none => .bad
  | none => .bad
/-- a new instance -/
def newI (G : Gl) (cl : CallF) (base : Nat) (C : Str) (f : Str) (vs : List Val) (ks : List Str) (kvs : List Val) (cs : Cells) : R Val :=
  (callD G cl base f (.ref cs.length :: vs) ks kvs (cs ++ [.ins C []])).bind fun r cs1 => match r with
    | .non => .ok (.ref cs.length) cs1
    | _ => .bad
def callG (G : Gl) (cl : CallF) (base : Nat) (f : Str) (vs : List Val) (ks : List Str) (kvs : List Val) (cs : Cells) : R Val :=
  match G.clss.lookup f with
  | some c => match c.meths.lookup ("__init__" : Str) with
    | some m => newI G cl base f m vs ks kvs cs
    | none => .bad
  | none => callD G cl base f vs ks kvs cs
/-- the def that is an instance's method -/
def mthF (G : Gl) (cs : Cells) (v : Val) (m : Str) : Option Str := match insOf cs v with
  | some (C, fs) => match G.clss.lookup C with
    | some c => match fs.lookup m with
      | none => c.meths.lookup m
      | some _ => none
    | none => none
  | none => none
def noX {α : Type} (r : R α) : R α := match r with
  | .ok a cs => .ok a cs
  | _ => .bad
/-- a special method of an own instance -/
def spcV (G : Gl) (cl : CallF) (base : Nat) (v : Val) (m : Str) (vs : List Val) (cs : Cells) : R Val :=
  match insOf cs v with
  | some (C, _) => match G.clss.lookup C with
    | some c => match c.meths.lookup m with
      | some f => noX (callD G cl base f (v :: vs) [] [] cs)
      | none => .bad
    | none => .bad
  | none => .bad
def cmpV (G : Gl) (cl : CallF) (base : Nat) (op : CmpOp) (v u : Val) (cs : Cells) : R Val := match op with
  | .In => match insOf cs u with
    | some _ => (spcV G cl base u "__contains__" [v] cs).bind fun r cs => R.of ((asBl r).map .bl) cs
    | none => R.of ((opCmp cs .In v u).map .bl) cs
  | .NotIn => match insOf cs u with
    | some _ => (spcV G cl base u "__contains__" [v] cs).bind fun r cs => R.of ((asBl r).map fun b => .bl (!b)) cs
    | none => R.of ((opCmp cs .NotIn v u).map .bl) cs
  | .Eq => match insOf cs v with
    | some _ => (spcV G cl base v "__eq__" [u] cs).bind fun r cs => R.of ((asBl r).map .bl) cs
    | none => R.of ((opCmp cs .Eq v u).map .bl) cs
  | o => R.of ((opCmp cs o v u).map .bl) cs
def lenOf (cs : Cells) (b : Bn) (vs : List Val) : Option Val := match b, vs with
  | .len, [v] => (insOf cs v).map fun _ => v
  | _, _ => none
def bltC (G : Gl) (cl : CallF) (base : Nat) (b : Bn) (vs : List Val) (cs : Cells) : R Val := match lenOf cs b vs with
  | some v => (spcV G cl base v "__len__" [] cs).bind fun r cs => R.of ((asInt r).bind fun i => if 0 ≤ i ∧ i < 1000000 then some (.int i) else none) cs
  | none => R.of (bltV cs b vs) cs
def attV (G : Gl) (cs : Cells) (v : Val) (f : Str) : Option Val := match insOf cs v with
  | some (C, fs) => match G.clss.lookup C with
    | some c => if c.flds.contains f then fs.lookup f else none
    | none => none
  | none => none
/-- an error's field -/
def xatV (G : Gl) (v : Val) (f : Str) : Option Val := match v with
  | .exn C fs => match G.excs.lookup C with
    | some i => if i.fields.contains f then fs.lookup f else none
    | none => none
  | _ => none
/-- the def that a value is -/
def clvF (G : Gl) (f : Val) : Option Str := match f with
  | .glo x => match G.defs.lookup x with
    | some d => if d.at_.1 = x ∧ d.at_.2 = none then some x else none
    | none => none
  | _ => none
def gloV (G : Gl) (x : Str) : Option Val := match G.consts.lookup x with
  | some v => some v
  | none => if (G.defs.lookup x).isSome then some (.glo x) else none
def mkL (xs : List Val) (cs : Cells) : R Val := R.iff (sizeOk xs.length) (.ok (.lst xs) cs)
/-- a new list or dict laid as a cell -/
def mkC (v : Val) (cs : Cells) : R Val := match v with
  | .lst xs => .ok (.ref cs.length) (cs ++ [.lst xs])
  | .dct kvs => .ok (.ref cs.length) (cs ++ [.dct kvs])
  | _ => .bad
/-- pairs put one by one -/
def putAll : List Val → List (Val × Val) → List (Val × Val)
  | .tup [k, v] :: r, d => putAll r (dPut k v d)
  | _, d => d
def Tg.slots : Tg → List Nat
  | .nm i => [i]
  | .tp is => is
  | .st is j => is ++ [j]
def Cl.tg : Cl → Tg
  | .one t _ _ => t
  | .more t _ _ _ => t
/-- all slots that the clauses store -/
def Cl.alls : Cl → List Nat
  | .one t _ _ => t.slots
  | .more t _ _ r => t.slots ++ r.alls
def isStrV : Val → Bool
  | .str _ => true
  | _ => false
def pairUp : List Val → Option (List (Val × Val))
  | [] => some []
  | k :: v :: r => (pairUp r).map ((k, v) :: ·)
  | _ => none
def mkD (ps : List Val) (cs : Cells) : R Val := match pairUp ps with
  | some kvs => R.iff (kvs.all (·.1.key) && Nat.ble kvs.length 15) (.ok (.dct (kvs.foldl (fun d p => dPut p.1 p.2 d) [])) cs)
  | none => .bad

/-! ### loops -/
/-- what a loop walks: its items, and the list's cell -/
structure Src where
  xs : List Val
  g : Option Nat
def srcOf (cs : Cells) (v : Val) : Option Src := match v with
  | .tup xs => some ⟨xs, none⟩
  | .lst xs => some ⟨xs, none⟩
  | .str s => some ⟨s.map fun c => .str [c], none⟩
  | .dct kvs => some ⟨kvs.map (·.1), none⟩
  | .ref a => match cs[a]? with
    | some (.lst xs) => some ⟨xs, some a⟩
    | _ => none
  | _ => none
/-- the list's cell as it stands, still of that length -/
def nowL (cs : Cells) (a n : Nat) : Option (List Val) := match cs[a]? with
  | some (.lst ys) => if ys.length = n then some ys else none
  | _ => none
/-- the items as they stand -/
def Src.now (cs : Cells) (src : Src) : Option (List Val) := match src.g with
  | none => some src.xs
  | some a => nowL cs a src.xs.length
def Src.at_ (cs : Cells) (src : Src) (i : Nat) : Option Val := (src.now cs).bind fun ys => ys[i]?
def rangeV (lo : Int) (n : Nat) : List Val := (List.range n).map fun (i : Nat) => .int (lo + i)
def enumV (i : Nat) : List Val → List Val
  | [] => []
  | x :: r => .tup [.int i, x] :: enumV (i + 1) r
def zip2V : List Val → List Val → List Val
  | x :: xs, y :: ys => .tup [x, y] :: zip2V xs ys
  | _, _ => []
def zip3V : List Val → List Val → List Val → List Val
  | x :: xs, y :: ys, z :: zs => .tup [x, y, z] :: zip3V xs ys zs
  | _, _, _ => []
def rng1Src : Val → Option Src
  | .int j => if j < 1000000 ∧ -1000000 < j then some ⟨rangeV 0 j.toNat, none⟩ else none
  | _ => none
def rng2Src : Val → Val → Option Src
  | .int i, .int j => if i < 1000000 ∧ -1000000 < i ∧ j < 1000000 ∧ -1000000 < j then some ⟨rangeV i (j - i).toNat, none⟩ else none
  | _, _ => none
def enuSrc : Val → Option Src
  | .lst xs => some ⟨enumV 0 xs, none⟩
  | .tup xs => some ⟨enumV 0 xs, none⟩
  | _ => none
def zip2Src : Val → Val → Option Src
  | .lst xs, .lst ys => some ⟨zip2V xs ys, none⟩
  | .tup xs, .lst ys => some ⟨zip2V xs ys, none⟩
  | .lst xs, .tup ys => some ⟨zip2V xs ys, none⟩
  | .tup xs, .tup ys => some ⟨zip2V xs ys, none⟩
  | _, _ => none
def zip3Src : Val → Val → Val → Option Src
  | .lst xs, .lst ys, .lst zs => some ⟨zip3V xs ys zs, none⟩
  | _, _, _ => none
def valsSrc : Val → Option Src
  | .dct kvs => some ⟨kvs.map (·.2), none⟩
  | _ => none
def itemsSrc : Val → Option Src
  | .dct kvs => some ⟨kvs.map fun p => .tup [p.1, p.2], none⟩
  | _ => none
def noRef : Val → Bool
  | .ref _ => false
  | _ => true
/-- a while -/
def loopW : Nat → (LSt → Cells → R Bool) → (LSt → Cells → SR) → LSt → Cells → SR
  | 0, _, _, _, _ => .bad
  | n + 1, c, b, s, cs => match c s cs with
    | .ok true cs => match b s cs with
      | .nx s cs => loopW n c b s cs
      | .ct s cs => loopW n c b s cs
      | .bk s cs => .nx s cs
      | r => r
    | .ok false cs => .nx s cs
    | .exc x cs => .exc x s cs
    | .bad => .bad
/-- a for over items: the source, turns to come, the turn -/
def loopF (src : Src) (set : Val → Cells → LSt → Option LSt) (b : LSt → Cells → SR) : Nat → Nat → LSt → Cells → SR
  | 0, _, s, cs => match src.now cs with
    | some _ => .nx s cs
    | none => .bad
  | n + 1, i, s, cs => match src.at_ cs i with
    | none => .bad
    | some v => match set v cs s with
      | none => .bad
      | some s => match b s cs with
        | .nx s cs => loopF src set b n (i + 1) s cs
        | .ct s cs => loopF src set b n (i + 1) s cs
        | .bk s cs => .nx s cs
        | r => r
/-- a comprehension's clause: item by item, what is made so far handed on -/
def loopC (src : Src) (set : Val → Cells → Option LSt) (b : LSt → List Val → Cells → R (List Val)) : Nat → Nat → List Val → Cells → R (List Val)
  | 0, _, acc, cs => match src.now cs with
    | some _ => .ok acc cs
    | none => .bad
  | n + 1, i, acc, cs => match src.at_ cs i with
    | none => .bad
    | some v => match set v cs with
      | none => .bad
      | some s => (b s acc cs).bind fun acc cs => loopC src set b n (i + 1) acc cs

section
variable (G : Gl) (cl : CallF) (base : Nat)
mutual
def evE : E → LSt → Cells → R Val
  | .var i, s, cs => R.of (getS s i) cs
  | .val v, _, cs => .ok v cs
  | .glo x, _, cs => R.of (gloV G x) cs
  | .tup es, s, cs => (evEs es s cs).bind fun vs cs => R.iff (sizeOk vs.length) (.ok (.tup vs) cs)
  | .lst es, s, cs => (evEs es s cs).bind fun vs cs => mkL vs cs
  | .dct ps, s, cs => (evEs ps s cs).bind fun vs cs => mkD vs cs
  | .cell e, s, cs => (evE e s cs).bind fun v cs => mkC v cs
  | .dmg m k v, s, cs => (evE m s cs).bind fun m cs => match m with
    | .dct kvs => R.iff (sizeOk (kvs.length + 1)) ((evE k s cs).bind fun k cs => (evE v s cs).bind fun v cs => R.iff k.key (.ok (.dct (dPut k v kvs)) cs))
    | _ => .bad
  | .bin op a b, s, cs => (evE a s cs).bind fun v cs => (evE b s cs).bind fun u cs => R.of (opBin cs op v u) cs
  | .neg a, s, cs => (evE a s cs).bind fun v cs => R.of ((asInt v).map fun i => .int (-i)) cs
  | .not a, s, cs => (evE a s cs).bind fun v cs => R.of ((truthy cs v).map fun b => .bl (!b)) cs
  | .and a b, s, cs => (evE a s cs).bind fun v cs => match truthy cs v with
    | some true => evE b s cs
    | some false => .ok v cs
    | none => .bad
  | .or a b, s, cs => (evE a s cs).bind fun v cs => match truthy cs v with
    | some true => .ok v cs
    | some false => evE b s cs
    | none => .bad
  | .ite c a b, s, cs => (evE c s cs).bind fun v cs => match truthy cs v with
    | some true => evE a s cs
    | some false => evE b s cs
    | none => .bad
  | .cmp op a b, s, cs => (evE a s cs).bind fun v cs => (evE b s cs).bind fun u cs => cmpV G cl base op v u cs
  | .chn o1 o2 a b c, s, cs => (evE a s cs).bind fun v cs => (evE b s cs).bind fun u cs => match opCmp cs o1 v u with
    | some true => (evE c s cs).bind fun w cs => R.of ((opCmp cs o2 u w).map .bl) cs
    | some false => .ok (.bl false) cs
    | none => .bad
  | .idx o i, s, cs => (evE o s cs).bind fun v cs => (evE i s cs).bind fun u cs => R.of (opIdx cs v u) cs
  | .slc o lo hi, s, cs => (evE o s cs).bind fun v cs => (evO lo s cs).bind fun l cs => (evO hi s cs).bind fun h cs => R.of (opSlc cs v l h) cs
  | .rev o, s, cs => (evE o s cs).bind fun v cs => R.of (opRev cs v) cs
  | .att o f, s, cs => (evE o s cs).bind fun v cs => R.of (attV G cs v f) cs
  | .xat o f, s, cs => (evE o s cs).bind fun v cs => R.of (xatV G v f) cs
  | .cll f es ks kes, s, cs => (evEs es s cs).bind fun vs cs => (evEs kes s cs).bind fun kvs cs => callG G cl base f vs ks kvs cs
  | .clv f es, s, cs => (evE f s cs).bind fun v cs => match clvF G v with
    | some x => (evEs es s cs).bind fun vs cs => callD G cl base x vs [] [] cs
    | none => .bad
  | .mth o m es ks kes, s, cs => (evE o s cs).bind fun v cs => match mthF G cs v m with
    | some x => (evEs es s cs).bind fun vs cs => (evEs kes s cs).bind fun kvs cs => callD G cl base x (v :: vs) ks kvs cs
    | none => .bad
  | .bm o m es, s, cs => (evE o s cs).bind fun v cs => R.iff (bmOk cs v m) ((evEs es s cs).bind fun vs cs => bltM base cs v m vs)
  | .blt b es, s, cs => (evEs es s cs).bind fun vs cs => bltC G cl base b vs cs
  | .isi e ts, s, cs => (evE e s cs).bind fun v cs => R.of ((isiAny G cs v ts).map .bl) cs
  | .isx e ts, s, cs => (evE e s cs).bind fun v cs => R.of ((isxAny G v ts).map .bl) cs
  | .sst e, s, cs => (evE e s cs).bind fun v cs => R.of (((seqOf cs v).bind strsOf).bind fun ss => if Nat.blt ss.length 64 then some (.lst ((sortS (uniS ss)).map .str)) else none) cs
  | .lns e, s, cs => (evE e s cs).bind fun v cs => R.of (((seqOf cs v).bind strsOf).bind fun ss => if Nat.blt ss.length 64 then some (.int (uniS ss).length) else none) cs
  | .srk _ _, _, _ => .bad
  | .lc el own c, s, cs => (noX (evC c (fun s acc cs => (evE el s cs).bind fun v cs => R.iff (Nat.blt acc.length 16777216) (.ok (acc ++ [v]) cs)) s (wipeS s own) [] cs)).bind fun vs cs => .ok (.lst vs) cs
  | .dc ke ve own c, s, cs => (noX (evC c (fun s acc cs => (evE ke s cs).bind fun k cs => (evE ve s cs).bind fun v cs => R.iff (k.key && Nat.blt acc.length 16777216) (.ok (acc ++ [.tup [k, v]]) cs)) s (wipeS s own) [] cs)).bind fun vs cs => .ok (.dct (putAll vs [])) cs
  | .ssc el own c, s, cs => (noX (evC c (fun s acc cs => (evE el s cs).bind fun v cs => R.iff (isStrV v && Nat.blt acc.length 4000) (.ok (acc ++ [v]) cs)) s (wipeS s own) [] cs)).bind fun vs cs =>
    R.of ((strsOf vs).bind fun ss => if Nat.blt (uniS ss).length 64 then some (.lst ((sortS (uniS ss)).map .str)) else none) cs
  | .fst es, s, cs => (evEs es s cs).bind fun vs cs => R.of ((strsOf vs).bind fun ss => if sizeOk (ss.map (·.length)).sum then some (.str ss.flatten) else none) cs
def evEs : Es → LSt → Cells → R (List Val)
  | .nil, _, cs => .ok [] cs
  | .cons e r, s, cs => (evE e s cs).bind fun v cs => (evEs r s cs).bind fun vs cs => .ok (v :: vs) cs
  | .star e r, s, cs => (evE e s cs).bind fun v cs => match seqOf cs v with
    | some xs => (evEs r s cs).bind fun vs cs => .ok (xs ++ vs) cs
    | none => .bad
def evO : Oe → LSt → Cells → R (Option Int)
  | .no, _, cs => .ok none cs
  | .yes e, s, cs => (evE e s cs).bind fun v cs => R.of ((asInt v).map some) cs
def evI : It → LSt → Cells → R Src
  | .seq e, s, cs => (evE e s cs).bind fun v cs => R.of (srcOf cs v) cs
  | .rng1 b, s, cs => (evE b s cs).bind fun v cs => R.of (rng1Src v) cs
  | .rng2 a b, s, cs => (evE a s cs).bind fun v cs => (evE b s cs).bind fun u cs => R.of (rng2Src v u) cs
  | .enu e, s, cs => (evE e s cs).bind fun v cs => R.of (enuSrc v) cs
  | .zip2 a b, s, cs => (evE a s cs).bind fun v cs => (evE b s cs).bind fun u cs => R.of (zip2Src v u) cs
  | .zip3 a b c, s, cs => (evE a s cs).bind fun v cs => (evE b s cs).bind fun u cs => (evE c s cs).bind fun w cs => R.of (zip3Src v u w) cs
  | .vals e, s, cs => (evE e s cs).bind fun v cs => R.of (valsSrc v) cs
  | .items e, s, cs => (evE e s cs).bind fun v cs => R.of (itemsSrc v) cs
/-- clauses: k makes the element; s0: the slots in which the source is evaluated; s: those in which the target is stored -/
def evC : Cl → (LSt → List Val → Cells → R (List Val)) → LSt → LSt → List Val → Cells → R (List Val)
  | .one t it c, k, s0, s, acc, cs => (evI it s0 cs).bind fun src cs =>
    loopC src (fun v cs => setT cs t v s) (fun s acc cs => match c with
      | .no => k s acc cs
      | .yes e => (evE e s cs).bind fun v cs => match truthy cs v with
        | some true => k s acc cs
        | some false => .ok acc cs
        | none => .bad) src.xs.length 0 acc cs
  | .more t it c r, k, s0, s, acc, cs => (evI it s0 cs).bind fun src cs =>
    loopC src (fun v cs => setT cs t v s) (fun s acc cs => match c with
      | .no => evC r k s (wipeS s r.alls) acc cs
      | .yes e => (evE e s cs).bind fun v cs => match truthy cs v with
        | some true => evC r k s (wipeS s r.alls) acc cs
        | some false => .ok acc cs
        | none => .bad) src.xs.length 0 acc cs
end
end
end EV
/-! EvC: statements, defs. -/
namespace EV
open PySem

def whileN : Nat := 100000
def SR.ofR {α : Type} (r : R α) (s : LSt) (k : α → Cells → SR) : SR := match r with
  | .ok a cs => k a cs
  | .exc x cs => .exc x s cs
  | .bad => .bad
def SR.ofO {α : Type} (o : Option α) (k : α → SR) : SR := match o with
  | some a => k a
  | none => .bad
/-- an error made -/
def mkX (G : Gl) (C : Str) (vs : List Val) : Option Exn := match G.excs.lookup C with
  | some i => match i.fields with
    | [] => match vs with
      | [.str _] => some ⟨C, []⟩
      | _ => none
    | fs => if fs.length = vs.length && Val.pureL vs then some ⟨C, (fs.zip vs).reverse⟩ else none
  | none => none
def augI (op : Operator) (u v : Val) : Option Int := match op, u, v with
  | .Add, .int i, .int j => some (i + j)
  | _, _, _ => none
/-- no error held in a slot or a cell -/
def noexn (s : LSt) (cs : Cells) : Bool := s.all (fun o => match o with
  | some v => v.nox
  | none => true) && cs.all Ob.nox
def setO (i : Option Nat) (v : Val) (s : LSt) : LSt := match i with
  | some i => s.set i (some v)
  | none => s
def unsO (i : Option Nat) (s : LSt) : LSt := match i with
  | some i => s.set i none
  | none => s
section
variable (G : Gl) (cl : CallF) (base : Nat) (keep : Bool)
mutual
def evS : S → LSt → Cells → SR
  | .exp e, s, cs => .ofR (evE G cl base e s cs) s fun _ cs => .nx s cs
  | .asg t e, s, cs => .ofR (evE G cl base e s cs) s fun v cs => .ofO (setT cs t v s) fun s => .nx s cs
  | .par is es, s, cs => .ofR (evEs G cl base es s cs) s fun vs cs => .ofO (setAll is vs s) fun s => .nx s cs
  | .setA o f e, s, cs => .ofR (evE G cl base e s cs) s fun v cs => .ofR (evE G cl base o s cs) s fun o cs => .ofR (setFd G base cs o f v) s fun _ cs => .nx s cs
  | .setI o i e, s, cs => .ofR (evE G cl base e s cs) s fun v cs => .ofR (evE G cl base o s cs) s fun o cs => .ofR (evE G cl base i s cs) s fun i cs => .ofR (setIx base cs o i v) s fun _ cs => .nx s cs
  | .augA o f op e, s, cs => .ofR (evE G cl base o s cs) s fun o cs0 => .ofO (attV G cs0 o f) fun u => .ofR (evE G cl base e s cs0) s fun v cs =>
      .ofO (if (insOf cs0 o).map (·.1) = (insOf cs o).map (·.1) then augI op u v else none) fun k => .ofR (setFd G base cs o f (.int k)) s fun _ cs => .nx s cs
  | .delS _ _, _, _ => .bad
  | .ret e, s, cs => .ofR (evE G cl base e s cs) s fun v cs => if keep then .rt v cs else .ofO (frz base cs frzN v) fun v => .rt v (cs.take base)
  | .retN, _, cs => .rt .non (if keep then cs else cs.take base)
  | .ite c a b, s, cs => .ofR (evE G cl base c s cs) s fun v cs => match truthy cs v with
    | some true => evSs a s cs
    | some false => evSs b s cs
    | none => .bad
  | .whl c b, s, cs => loopW whileN (fun s cs => (evE G cl base c s cs).bind fun v cs => R.of (truthy cs v) cs) (fun s cs => evSs b s cs) s cs
  | .for_ t it b, s, cs => .ofR (evI G cl base it s cs) s fun src cs => loopF src (fun v cs s => setT cs t v s) (fun s cs => evSs b s cs) src.xs.length 0 s cs
  | .rse C es, s, cs => .ofR (evEs G cl base es s cs) s fun vs cs => .ofO (mkX G C vs) fun x => .exc x s cs
  | .try_ b hs, s, cs => match evSs b s cs with
    | .exc x s cs => evHs hs x s cs
    | r => r
  | .brk, s, cs => .bk s cs
  | .cnt, s, cs => .ct s cs
  | .pss, s, cs => .nx s cs
def evSs : Ss → LSt → Cells → SR
  | .nil, s, cs => .nx s cs
  | .cons a r, s, cs => match evS a s cs with
    | .nx s cs => evSs r s cs
    | x => x
def evHs : Hs → Exn → LSt → Cells → SR
  | .nil, x, s, cs => .exc x s cs
  | .cons C i b r, x, s, cs => match G.excs.lookup x.C with
    | some ei => if ei.bases.contains C then (if noexn s cs && Val.noxF x.fs then match evSs b (setO i (.exn x.C x.fs) s) cs with
        | .nx s cs => if noexn (unsO i s) cs then .nx (unsO i s) cs else .bad
        | _ => .bad
      else .bad)
      else evHs r x s cs
    | none => .bad
end
end

/-- a def's body run -/
def runD (G : Gl) (cl : CallF) (d : Def) (vs : List Val) (base : Nat) (cs : Cells) : R Val :=
  let b := if d.keep then base else cs.length
  if vs.length = d.ps.length then
    match evSs G cl b d.keep d.body (vs.map some ++ List.replicate (d.n - vs.length) none) cs with
    | .rt v cs => .ok v cs
    | .nx _ cs => .ok .non (if d.keep then cs else cs.take b)
    | .exc x _ cs => R.iff (Val.pureF x.fs) (.exc x (if d.keep then cs else cs.take b))
    | _ => .bad
  else .bad
def callN (G : Gl) : Nat → CallF
  | 0, _, _, _, _ => .bad
  | n + 1, f, vs, base, cs => match G.defs.lookup f with
    | some d => runD G (callN G n) d vs base cs
    | none => .bad
end EV
/-! RpA: what stands for a value in the layer's heap. -/
namespace EV
open PySem PySem.Spec PyProof.Rows L2

/-- a world: how many cells, where they stand, what is frozen, what is being made, the errors that are held -/
structure Wd where
  n : Nat
  i : Nat → Addr
  F : Hp
  A : Hp
  x : Addr → Option (Str × Option Addr)
def keyOf : Val → Option Key
  | .str s => some (.inr (tS s))
  | .int i => some (.inl i)
  | _ => none
mutual
inductive RepV (K : Fg) (w : Wd) : Val → V → Prop
  | non : RepV K w .non .non
  | bl (b : Bool) : RepV K w (.bl b) (.bl b)
  | int (i : Int) : RepV K w (.int i) (.int i)
  | str (s : List Nat) : RepV K w (.str s) (.str (tS s))
  | tup {xs : List Val} {p : Addr} {ys : List V} : SqT K w.F p ys → RepL K w xs ys → RepV K w (.tup xs) (.ref p)
  | lst {xs : List Val} {p : Addr} {ys : List V} : w.F p = some (.lst ys) → RepL K w xs ys → RepV K w (.lst xs) (.ref p)
  | scr {xs : List Int} {p : Addr} : SqL K w.F p (xs.map V.int) → RepV K w (.scr xs) (.ref p)
  | dct {kvs : List (Val × Val)} {p : Addr} {o : Obj} {ds : List (Key × V)} : w.F p = some (.frz o (.dK ds)) → RepD K w kvs ds → RepV K w (.dct kvs) (.ref p)
  | obj {C : Str} {fs : List (Str × Val)} {p dx : Addr} {gs : List (Str × V)} : w.F p = some (.ins (He.ga K C) dx gs) → w.F dx = some (.own p) → RepF K w fs gs → RepV K w (.obj C fs) (.ref p)
  | ref {a : Nat} : a < w.n → RepV K w (.ref a) (.ref (w.i a))
  | glo (x : Str) : RepV K w (.glo x) (.ref (He.ga K x))
  | exn0 {C : Str} {a : Addr} : w.x a = some (C, none) → RepV K w (.exn C []) (.ref a)
  | exn {C : Str} {fs : List (Str × Val)} {a d : Addr} {gs : List (Str × V)} : w.x a = some (C, some d) → w.F d = some (.xd gs) → RepF K w fs gs → RepV K w (.exn C fs) (.ref a)
inductive RepL (K : Fg) (w : Wd) : List Val → List V → Prop
  | nil : RepL K w [] []
  | cons {x : Val} {xs : List Val} {y : V} {ys : List V} : RepV K w x y → RepL K w xs ys → RepL K w (x :: xs) (y :: ys)
inductive RepD (K : Fg) (w : Wd) : List (Val × Val) → List (Key × V) → Prop
  | nil : RepD K w [] []
  | cons {k x : Val} {xs : List (Val × Val)} {c : Key} {y : V} {ys : List (Key × V)} : keyOf k = some c → RepV K w x y → RepD K w xs ys → RepD K w ((k, x) :: xs) ((c, y) :: ys)
inductive RepF (K : Fg) (w : Wd) : List (Str × Val) → List (Str × V) → Prop
  | nil : RepF K w [] []
  | cons {f : Str} {x : Val} {xs : List (Str × Val)} {y : V} {ys : List (Str × V)} : RepV K w x y → RepF K w xs ys → RepF K w ((f, x) :: xs) ((f, y) :: ys)
end
/-- a later world -/
structure Wd.le (w w' : Wd) : Prop where
  n : w.n ≤ w'.n
  i : ∀ a, a < w.n → w'.i a = w.i a
  F : ∀ p o, w.F p = some o → w'.F p = some o
  A : ∀ p o, w.A p = some o → w'.A p = some o
  x : w'.x = w.x
/-- .. whatever is being made -/
structure Wd.ler (w w' : Wd) : Prop where
  n : w.n ≤ w'.n
  i : ∀ a, a < w.n → w'.i a = w.i a
  F : ∀ p o, w.F p = some o → w'.F p = some o
  x : w'.x = w.x
theorem Wd.le.r {w w' : Wd} (l : w.le w') : w.ler w' := ⟨l.n, l.i, l.F, l.x⟩
theorem Wd.ler.trans {a b c : Wd} (h : a.ler b) (g : b.ler c) : a.ler c :=
  ⟨Nat.le_trans h.n g.n, fun x hx => (g.i x (Nat.lt_of_lt_of_le hx h.n)).trans (h.i x hx), fun p o e => g.F p o (h.F p o e), g.x.trans h.x⟩
theorem Wd.le.rfl {w : Wd} : w.le w := ⟨Nat.le_refl _, fun _ _ => _root_.rfl, fun _ _ h => h, fun _ _ h => h, _root_.rfl⟩
theorem Wd.le.trans {a b c : Wd} (h : a.le b) (g : b.le c) : a.le c :=
  ⟨Nat.le_trans h.n g.n, fun x hx => (g.i x (Nat.lt_of_lt_of_le hx h.n)).trans (h.i x hx), fun p o e => g.F p o (h.F p o e), fun p o e => g.A p o (h.A p o e), g.x.trans h.x⟩
theorem rd_mono {F F' : Hp} (h : ∀ p o, F p = some o → F' p = some o) {p : Addr} {u : HO} (r : Rd F p u) : Rd F' p u := by
  rcases r with r | ⟨o, r⟩
  · exact .inl (h _ _ r)
  · exact .inr ⟨o, h _ _ r⟩
theorem sqT_mono {K : Fg} {F F' : Hp} (h : ∀ p o, F p = some o → F' p = some o) {p : Addr} {ys : List V} (r : SqT K F p ys) : SqT K F' p ys := by
  rcases r with r | r
  · exact .inl (rd_mono h r)
  · exact .inr r
theorem sqL_mono {K : Fg} {F F' : Hp} (h : ∀ p o, F p = some o → F' p = some o) {p : Addr} {ys : List V} (r : SqL K F p ys) : SqL K F' p ys := by
  rcases r with r | r
  · exact .inl (rd_mono h r)
  · exact .inr r
section
variable {K : Fg} {w w' : Wd}
mutual
theorem RepV.monr (l : w.ler w') : ∀ {v : Val} {x : V}, RepV K w v x → RepV K w' v x
  | _, _, .non => .non
  | _, _, .bl b => .bl b
  | _, _, .int i => .int i
  | _, _, .str s => .str s
  | _, _, .tup h r => .tup (sqT_mono l.F h) (RepL.monr l r)
  | _, _, .lst h r => .lst (l.F _ _ h) (RepL.monr l r)
  | _, _, .scr h => .scr (sqL_mono l.F h)
  | _, _, .dct h r => .dct (l.F _ _ h) (RepD.monr l r)
  | _, _, .obj h g r => .obj (l.F _ _ h) (l.F _ _ g) (RepF.monr l r)
  | _, _, .ref (a := a) h => by
    have e := l.i a h
    rw [← e]
    exact .ref (Nat.lt_of_lt_of_le h l.n)
  | _, _, .glo x => .glo x
  | _, _, .exn0 h => .exn0 (by rw [l.x]; exact h)
  | _, _, .exn h g r => .exn (by rw [l.x]; exact h) (l.F _ _ g) (RepF.monr l r)
theorem RepL.monr (l : w.ler w') : ∀ {v : List Val} {x : List V}, RepL K w v x → RepL K w' v x
  | _, _, .nil => .nil
  | _, _, .cons h r => .cons (RepV.monr l h) (RepL.monr l r)
theorem RepD.monr (l : w.ler w') : ∀ {v : List (Val × Val)} {x : List (Key × V)}, RepD K w v x → RepD K w' v x
  | _, _, .nil => .nil
  | _, _, .cons k h r => .cons k (RepV.monr l h) (RepD.monr l r)
theorem RepF.monr (l : w.ler w') : ∀ {v : List (Str × Val)} {x : List (Str × V)}, RepF K w v x → RepF K w' v x
  | _, _, .nil => .nil
  | _, _, .cons h r => .cons (RepV.monr l h) (RepF.monr l r)
end
theorem RepV.mono (l : w.le w') {v : Val} {x : V} (r : RepV K w v x) : RepV K w' v x := r.monr l.r
theorem RepL.mono (l : w.le w') {v : List Val} {x : List V} (r : RepL K w v x) : RepL K w' v x := r.monr l.r
theorem RepD.mono (l : w.le w') {v : List (Val × Val)} {x : List (Key × V)} (r : RepD K w v x) : RepD K w' v x := r.monr l.r
theorem RepF.mono (l : w.le w') {v : List (Str × Val)} {x : List (Str × V)} (r : RepF K w v x) : RepF K w' v x := r.monr l.r
theorem RepL.length : ∀ {v : List Val} {x : List V}, RepL K w v x → v.length = x.length
  | _, _, .nil => rfl
  | _, _, .cons _ r => congrArg (· + 1) (RepL.length r)
theorem RepD.length : ∀ {v : List (Val × Val)} {x : List (Key × V)}, RepD K w v x → v.length = x.length
  | _, _, .nil => rfl
  | _, _, .cons _ _ r => congrArg (· + 1) (RepD.length r)
theorem RepF.length : ∀ {v : List (Str × Val)} {x : List (Str × V)}, RepF K w v x → v.length = x.length
  | _, _, .nil => rfl
  | _, _, .cons _ r => congrArg (· + 1) (RepF.length r)
theorem RepL.append : ∀ {v u : List Val} {x y : List V}, RepL K w v x → RepL K w u y → RepL K w (v ++ u) (x ++ y)
  | _, _, _, _, .nil, s => s
  | _, _, _, _, .cons h r, s => .cons h (RepL.append r s)
theorem RepL.get : ∀ {v : List Val} {x : List V} {i : Nat} {a : Val}, RepL K w v x → v[i]? = some a → ∃ b, x[i]? = some b ∧ RepV K w a b
  | _, _, _, _, .nil, h => by simp at h
  | _, _, 0, a, .cons h r, e => by
    simp at e
    subst e
    exact ⟨_, rfl, h⟩
  | _, _, i + 1, a, .cons h r, e => by
    obtain ⟨b, h1, h2⟩ := RepL.get (i := i) (a := a) r (by simpa using e)
    exact ⟨b, by simpa using h1, h2⟩
theorem RepL.get' : ∀ {v : List Val} {x : List V} {i : Nat} {b : V}, RepL K w v x → x[i]? = some b → ∃ a, v[i]? = some a ∧ RepV K w a b
  | _, _, _, _, .nil, h => by simp at h
  | _, _, 0, a, .cons h r, e => by
    simp at e
    subst e
    exact ⟨_, rfl, h⟩
  | _, _, i + 1, a, .cons h r, e => by
    obtain ⟨b, h1, h2⟩ := RepL.get' (i := i) (b := a) r (by simpa using e)
    exact ⟨b, by simpa using h1, h2⟩
theorem RepL.take : ∀ {v : List Val} {x : List V} (n : Nat), RepL K w v x → RepL K w (v.take n) (x.take n)
  | _, _, 0, _ => by rw [List.take_zero, List.take_zero]; exact .nil
  | _, _, n + 1, .nil => .nil
  | _, _, n + 1, .cons h r => .cons h (RepL.take n r)
theorem RepL.drop : ∀ {v : List Val} {x : List V} (n : Nat), RepL K w v x → RepL K w (v.drop n) (x.drop n)
  | _, _, 0, h => h
  | _, _, n + 1, .nil => .nil
  | _, _, n + 1, .cons h r => RepL.drop n r
theorem RepL.set {a : Val} {b : V} (q : RepV K w a b) : ∀ {v : List Val} {x : List V} (n : Nat), RepL K w v x → RepL K w (v.set n a) (x.set n b)
  | _, _, _, .nil => .nil
  | _, _, 0, .cons h r => .cons q r
  | _, _, n + 1, .cons h r => .cons h (RepL.set q n r)
theorem RepL.dropLast {v : List Val} {x : List V} (h : RepL K w v x) : RepL K w v.dropLast x.dropLast := by
  rw [List.dropLast_eq_take, List.dropLast_eq_take, h.length]
  exact h.take _
theorem RepL.reverse : ∀ {v : List Val} {x : List V}, RepL K w v x → RepL K w v.reverse x.reverse
  | _, _, .nil => .nil
  | _, _, .cons h r => by
    rw [List.reverse_cons, List.reverse_cons]
    exact (RepL.reverse r).append (.cons h .nil)
theorem RepL.one {a : Val} {b : V} (q : RepV K w a b) : RepL K w [a] [b] := .cons q .nil
theorem RepF.look : ∀ {v : List (Str × Val)} {x : List (Str × V)} {f : Str}, RepF K w v x → (v.lookup f = none ∧ x.lookup f = none) ∨ ∃ a b, v.lookup f = some a ∧ x.lookup f = some b ∧ RepV K w a b
  | _, _, _, .nil => .inl ⟨rfl, rfl⟩
  | _, _, f, .cons (f := g) h r => by
    rw [List.lookup_cons, List.lookup_cons]
    cases e : f == g with
    | true => exact .inr ⟨_, _, rfl, rfl, h⟩
    | false => exact RepF.look r
theorem RepF.put {f : Str} {a : Val} {b : V} (q : RepV K w a b) : ∀ {v : List (Str × Val)} {x : List (Str × V)}, RepF K w v x → RepF K w (fPut f a v) (putF f b x)
  | _, _, .nil => by
    unfold fPut putF
    exact .cons q .nil
  | _, _, .cons (f := g) h r => by
    unfold fPut putF
    by_cases e : g = f
    · rw [if_pos e, if_pos e]
      exact .cons q r
    · rw [if_neg e, if_neg e]
      exact .cons h (RepF.put q r)
/-- a list of one kind -/
theorem RepL.strs : ∀ {v : List Val} {x : List V} {ss : List (List Nat)}, RepL K w v x → strsOf v = some ss → x = ss.map fun s => V.str (tS s)
  | _, _, ss, .nil, e => by
    unfold strsOf at e
    cases e
    rfl
  | _, _, ss, .cons (x := a) (xs := xs) h r, e => by
    cases h with
    | str s =>
      unfold strsOf at e
      cases q : strsOf xs with
      | none => rw [q] at e; cases e
      | some l =>
        rw [q] at e
        cases e
        rw [RepL.strs r q]
        rfl
    | _ => cases e
theorem RepL.ints : ∀ {v : List Val} {x : List V} {ss : List Int}, RepL K w v x → intsOf v = some ss → x = ss.map V.int
  | _, _, ss, .nil, e => by
    unfold intsOf at e
    cases e
    rfl
  | _, _, ss, .cons (x := a) (xs := xs) h r, e => by
    cases h with
    | int s =>
      unfold intsOf at e
      cases q : intsOf xs with
      | none => rw [q] at e; cases e
      | some l =>
        rw [q] at e
        cases e
        rw [RepL.ints r q]
        rfl
    | _ => cases e
theorem RepL.bls : ∀ {v : List Val} {x : List V} {ss : List Bool}, RepL K w v x → blsOf v = some ss → x = ss.map V.bl
  | _, _, ss, .nil, e => by
    unfold blsOf at e
    cases e
    rfl
  | _, _, ss, .cons (x := a) (xs := xs) h r, e => by
    cases h with
    | bl s =>
      unfold blsOf at e
      cases q : blsOf xs with
      | none => rw [q] at e; cases e
      | some l =>
        rw [q] at e
        cases e
        rw [RepL.bls r q]
        rfl
    | _ => cases e
theorem RepL.ofStrs : ∀ ss : List (List Nat), RepL K w (ss.map .str) (ss.map fun s => V.str (tS s))
  | [] => .nil
  | s :: r => .cons (.str s) (RepL.ofStrs r)
theorem RepL.ofInts : ∀ ss : List Int, RepL K w (ss.map .int) (ss.map V.int)
  | [] => .nil
  | s :: r => .cons (.int s) (RepL.ofInts r)
end

/-- what stands for a cell at p -/
def RepOb (K : Fg) (w : Wd) (H : Hp) (p : Addr) : Ob → Prop
  | .lst xs => ∃ ys, H p = some (.lst ys) ∧ RepL K w xs ys
  | .dct kvs => ∃ ds, H p = some (.dK ds) ∧ RepD K w kvs ds
  | .ins C fs => ∃ dx gs, H p = some (.ins (He.ga K C) dx gs) ∧ H dx = some (.own p) ∧ w.F dx = none ∧ RepF K w fs gs
/-- what stands at a cell: a list, a dict, an instance -/
def cellHO : HO → Bool
  | .lst _ => true
  | .dK _ => true
  | .ins _ _ _ => true
  | .ext _ => true
  | _ => false
/-- the frames' floors, and what is known of the errors that are held -/
structure BX where
  l : List Nat
  xo : Addr → Str × Option Addr → Prop
instance : Membership Nat BX := ⟨fun B b => b ∈ B.l⟩
/-- the heap -/
structure HRel (K : Fg) (w : Wd) (Bs : BX) (cs : Cells) (H : Hp) : Prop where
  n : w.n = cs.length
  fr : ∀ p o, w.F p = some o → H p = some o
  ac : ∀ p o, w.A p = some o → H p = some o ∧ w.F p = none ∧ cellHO o = true
  cell : ∀ a o, cs[a]? = some o → RepOb K w H (w.i a) o ∧ w.F (w.i a) = none ∧ w.A (w.i a) = none
  inj : ∀ a b, a < w.n → b < w.n → w.i a = w.i b → a = b
  clean : ∀ b, b ∈ Bs → ∀ a o, a < b → cs[a]? = some o → o.undr b = true
  bs : ∀ b, b ∈ Bs → b ≤ cs.length
  xo : ∀ p c, w.x p = some c → Bs.xo p c
/-- the slots -/
structure SRel (K : Fg) (w : Wd) (s : LSt) (σ : L2.St) : Prop where
  len : s.length = σ.length
  at_ : ∀ (i : Nat) (v : Val), s[i]? = some (some v) → ∃ x, σ[i]? = some (some x) ∧ RepV K w v x
theorem SRel.mono {K : Fg} {w w' : Wd} {s : LSt} {σ : L2.St} (l : w.le w') (h : SRel K w s σ) : SRel K w' s σ := ⟨h.len, fun i v e => by
  obtain ⟨x, h1, h2⟩ := h.at_ i v e
  exact ⟨x, h1, h2.mono l⟩⟩
theorem SRel.set {K : Fg} {w : Wd} {s : LSt} {σ : L2.St} {v : Val} {x : V} (h : SRel K w s σ) (i : Nat) (r : RepV K w v x) : SRel K w (s.set i (some v)) (σ.set i (some x)) := by
  refine ⟨by rw [List.length_set, List.length_set, h.len], fun j u e => ?_⟩
  by_cases hj : i = j
  · subst hj
    by_cases hi : i < s.length
    · rw [List.getElem?_set_self hi] at e
      cases e
      exact ⟨x, List.getElem?_set_self (by rw [← h.len]; exact hi), r⟩
    · rw [List.getElem?_eq_none (by rw [List.length_set]; omega)] at e
      cases e
  · rw [List.getElem?_set_ne hj] at e ⊢
    exact h.at_ j u e
theorem SRel.unset {K : Fg} {w : Wd} {s : LSt} {σ : L2.St} {x : Option V} (h : SRel K w s σ) (i : Nat) : SRel K w (s.set i none) (σ.set i x) := by
  refine ⟨by rw [List.length_set, List.length_set, h.len], fun j u e => ?_⟩
  by_cases hj : i = j
  · subst hj
    by_cases hi : i < s.length
    · rw [List.getElem?_set_self hi] at e
      cases e
    · rw [List.getElem?_eq_none (by rw [List.length_set]; omega)] at e
      cases e
  · rw [List.getElem?_set_ne hj] at e ⊢
    exact h.at_ j u e
theorem SRel.wipe {K : Fg} {w : Wd} {s : LSt} {σ : L2.St} (h : SRel K w s σ) : ∀ is : List Nat, SRel K w (wipeS s is) (L2.wipe σ is)
  | [] => h
  | i :: is => by
    unfold wipeS L2.wipe
    exact (SRel.wipe h is).unset i
end EV
/-! RpB: a run of the evaluator as a reading of the layer. -/
namespace EV
open PySem PySem.Spec PyProof.Rows L2

/-- an error of ours, as the layer tells of it -/
def RepX (K : Fg) (w : Wd) (e : Exn) (c : Value) (d : Option Addr) : Prop :=
  c = .ref (He.ga K e.C) ∧ ((e.fs = [] ∧ d = none) ∨ ∃ dd gs, d = some dd ∧ w.F dd = some (.xd gs) ∧ RepF K w e.fs gs)
/-- how an answer lies in the heap -/
abbrev RP (α β : Type) := Wd → Hp → α → β → Prop
abbrev rV (K : Fg) : RP Val V := fun w _ v x => RepV K w v x
abbrev rL (K : Fg) : RP (List Val) (List V) := fun w _ v x => RepL K w v x
abbrev rB : RP Bool Bool := fun _ _ a b => a = b
abbrev rO : RP (Option Int) (Option Int) := fun _ _ a b => a = b
section
variable {K : Fg} {Bs : BX} {W : WX} {σ : L2.St}
def Run (K : Fg) (Bs : BX) {α β : Type} (Rp : RP α β) (W : WX) (σ : L2.St) (w : Wd) (Q : β → Hp → Prop) : R α → Prop
  | .ok a cs => ∀ w' x H', w.le w' → HRel K w' Bs cs H' → Rp w' H' a x → Q x H'
  | .exc e cs => ∀ w' H' c d, w.le w' → HRel K w' Bs cs H' → RepX K w' e c d → W c d σ H'
  | .bad => False
theorem Run.mono {α β : Type} {Rp : RP α β} {w w1 : Wd} {Q : β → Hp → Prop} {r : R α} (l : w.le w1) (h : Run K Bs Rp W σ w Q r) : Run K Bs Rp W σ w1 Q r := by
  cases r with
  | ok a cs => exact fun w' x H' l' => h w' x H' (l.trans l')
  | exc e cs => exact fun w' H' c d l' => h w' H' c d (l.trans l')
  | bad => exact h
/-- the reading: some state of ours lies here, from which the run comes to what is wanted -/
def T (K : Fg) (Bs : BX) {α β : Type} (Rp : RP α β) (W : WX) (f : LSt → Cells → R α) : L2.St → Hp → (β → Hp → Prop) → Prop :=
  fun σ H Q => ∃ w s cs, SRel K w s σ ∧ HRel K w Bs cs H ∧ Run K Bs Rp W σ w Q (f s cs)
/-- one run and then another -/
theorem T.bind {α β α1 β1 : Type} {Rp : RP α β} {Rp1 : RP α1 β1} {f : LSt → Cells → R α1} {g : LSt → α1 → Cells → R α} {H : Hp} {Q : β → Hp → Prop} {Q1 : β1 → Hp → Prop}
    (h : T K Bs Rp W (fun s cs => (f s cs).bind (g s)) σ H Q)
    (k : ∀ w s a x cs H1, SRel K w s σ → HRel K w Bs cs H1 → Rp1 w H1 a x → Run K Bs Rp W σ w Q (g s a cs) → Q1 x H1) : T K Bs Rp1 W f σ H Q1 := by
  obtain ⟨w, s, cs, hs, hh, hr⟩ := h
  refine ⟨w, s, cs, hs, hh, ?_⟩
  have hr : Run K Bs Rp W σ w Q ((f s cs).bind (g s)) := hr
  cases e : f s cs with
  | ok a cs1 =>
    rw [e] at hr
    exact fun w' x H' l hh' rp => k w' s a x cs1 H' (hs.mono l) hh' rp (Run.mono l hr)
  | exc x cs1 =>
    rw [e] at hr
    exact hr
  | bad =>
    rw [e] at hr
    exact hr
/-- the next run, from a state that is known -/
theorem T.next {α β α1 β1 : Type} {Rp : RP α β} {Rp1 : RP α1 β1} {f : LSt → Cells → R α1} {g : α1 → Cells → R α} {w : Wd} {s : LSt} {cs : Cells} {H : Hp} {Q : β → Hp → Prop} {Q1 : β1 → Hp → Prop}
    (hs : SRel K w s σ) (hh : HRel K w Bs cs H) (h : Run K Bs Rp W σ w Q ((f s cs).bind g))
    (k : ∀ w1 a x cs1 H1, w.le w1 → HRel K w1 Bs cs1 H1 → Rp1 w1 H1 a x → Run K Bs Rp W σ w1 Q (g a cs1) → Q1 x H1) : T K Bs Rp1 W f σ H Q1 := by
  refine ⟨w, s, cs, hs, hh, ?_⟩
  cases e : f s cs with
  | ok a cs1 =>
    rw [e] at h
    exact fun w' x H' l hh' rp => k w' a x cs1 H' l hh' rp (Run.mono l h)
  | exc x cs1 =>
    rw [e] at h
    exact h
  | bad =>
    rw [e] at h
    exact h
/-- the last run -/
theorem T.last {α β : Type} {Rp : RP α β} {f : LSt → Cells → R α} {w : Wd} {s : LSt} {cs : Cells} {H : Hp} {Q : β → Hp → Prop}
    (hs : SRel K w s σ) (hh : HRel K w Bs cs H) (h : Run K Bs Rp W σ w Q (f s cs)) : T K Bs Rp W f σ H Q := ⟨w, s, cs, hs, hh, h⟩
theorem Run.done {α β : Type} {Rp : RP α β} {w : Wd} {Q : β → Hp → Prop} {a : α} {cs : Cells} {x : β} {H : Hp} (h : Run K Bs Rp W σ w Q (.ok a cs)) (hh : HRel K w Bs cs H) (r : Rp w H a x) : Q x H :=
  h w x H .rfl hh r
theorem Run.done' {α β : Type} {Rp : RP α β} {w w' : Wd} {Q : β → Hp → Prop} {a : α} {cs : Cells} {x : β} {H : Hp} (h : Run K Bs Rp W σ w Q (.ok a cs)) (l : w.le w') (hh : HRel K w' Bs cs H) (r : Rp w' H a x) : Q x H :=
  h w' x H l hh r
/-- an option's answer -/
theorem Run.some_ {α β : Type} {Rp : RP α β} {w : Wd} {Q : β → Hp → Prop} {o : Option α} {cs : Cells} (h : Run K Bs Rp W σ w Q (R.of o cs)) : ∃ a, o = some a ∧ Run K Bs Rp W σ w Q (.ok a cs) := by
  cases o with
  | some a => exact ⟨a, rfl, h⟩
  | none => exact h.elim
theorem Run.iff_ {α β : Type} {Rp : RP α β} {w : Wd} {Q : β → Hp → Prop} {b : Bool} {r : R α} (h : Run K Bs Rp W σ w Q (R.iff b r)) : b = true ∧ Run K Bs Rp W σ w Q r := by
  cases b with
  | true => exact ⟨rfl, h⟩
  | false => exact h.elim
theorem Run.bind_ok {α α1 β : Type} {Rp : RP α β} {w : Wd} {Q : β → Hp → Prop} {a : α1} {cs : Cells} {g : α1 → Cells → R α} (h : Run K Bs Rp W σ w Q ((R.ok a cs : R α1).bind g)) : Run K Bs Rp W σ w Q (g a cs) := h

/-! ### new objects -/
theorem HRel.none_F {w : Wd} {cs : Cells} {H : Hp} (h : HRel K w Bs cs H) {p : Addr} (e : H p = none) : w.F p = none := by
  cases q : w.F p with
  | none => rfl
  | some o =>
    rw [h.fr p o q] at e
    cases e
theorem HRel.none_i {w : Wd} {cs : Cells} {H : Hp} (h : HRel K w Bs cs H) {p : Addr} (e : H p = none) {a : Nat} (ha : a < w.n) : w.i a ≠ p := by
  have hl : a < cs.length := by rw [← h.n]; exact ha
  have q := (h.cell a cs[a] (List.getElem?_eq_getElem hl)).1
  intro z
  rw [z] at q
  cases ho : cs[a] with
  | lst xs =>
    rw [ho] at q
    obtain ⟨ys, q, _⟩ := q
    rw [e] at q
    cases q
  | dct xs =>
    rw [ho] at q
    obtain ⟨ys, q, _⟩ := q
    rw [e] at q
    cases q
  | ins C fs =>
    rw [ho] at q
    obtain ⟨dx, gs, q, _⟩ := q
    rw [e] at q
    cases q
theorem RepOb.mono {w w' : Wd} {H : Hp} {p : Addr} {o : Ob} (l : w.le w') (hd : ∀ q, H q = some (.own p) → w.F q = none → w'.F q = none) (h : RepOb K w H p o) : RepOb K w' H p o := by
  cases o with
  | lst xs =>
    obtain ⟨ys, q, r⟩ := h
    exact ⟨ys, q, r.mono l⟩
  | dct xs =>
    obtain ⟨ys, q, r⟩ := h
    exact ⟨ys, q, r.mono l⟩
  | ins C fs =>
    obtain ⟨dx, gs, q, d, f, r⟩ := h
    exact ⟨dx, gs, q, d, hd dx d f, r.mono l⟩
/-- the heap changed away from a cell's own places -/
theorem RepOb.heap {w : Wd} {H H' : Hp} {p : Addr} {o : Ob} (k : ∀ q u, H q = some u → H' q = some u) (h : RepOb K w H p o) : RepOb K w H' p o := by
  cases o with
  | lst xs =>
    obtain ⟨ys, q, r⟩ := h
    exact ⟨ys, k _ _ q, r⟩
  | dct xs =>
    obtain ⟨ys, q, r⟩ := h
    exact ⟨ys, k _ _ q, r⟩
  | ins C fs =>
    obtain ⟨dx, gs, q, d, f, r⟩ := h
    exact ⟨dx, gs, k _ _ q, k _ _ d, f, r⟩
theorem RepOb.kind {w : Wd} {H : Hp} {p : Addr} {o : Ob} (h : RepOb K w H p o) : ∃ u, H p = some u ∧ cellHO u = true := by
  cases o with
  | lst xs =>
    obtain ⟨ys, q, r⟩ := h
    exact ⟨_, q, rfl⟩
  | dct xs =>
    obtain ⟨ys, q, r⟩ := h
    exact ⟨_, q, rfl⟩
  | ins C fs =>
    obtain ⟨dx, gs, q, d, f, r⟩ := h
    exact ⟨_, q, rfl⟩
def Wd.fz (w : Wd) (p : Addr) (o : HO) : Wd := { w with F := upd w.F p o }
theorem Wd.fz_le {w : Wd} {p : Addr} {o : HO} (h : w.F p = none) : w.le (w.fz p o) := ⟨Nat.le_refl _, fun _ _ => rfl, fun q u e => by
  show upd w.F p o q = some u
  rw [upd_ne (ne_of_none e h)]
  exact e, fun _ _ e => e, rfl⟩
theorem upd_keep {H : Hp} {p : Addr} {o : HO} (e : H p = none) : ∀ q u, H q = some u → upd H p o q = some u := fun q u h => by
  rw [upd_ne (ne_of_none h e)]
  exact h
theorem HRel.lt {w : Wd} {cs : Cells} {H : Hp} (h : HRel K w Bs cs H) {a : Nat} {o : Ob} (e : cs[a]? = some o) : a < w.n := by
  rw [h.n]
  exact (List.getElem?_eq_some_iff.mp e).1
/-- a new object that never changes -/
theorem HRel.new {w : Wd} {cs : Cells} {H : Hp} (h : HRel K w Bs cs H) {p : Addr} (e : H p = none) (o : HO) : HRel K (w.fz p o) Bs cs (upd H p o) := by
  refine ⟨h.n, fun q u z => ?_, fun q u z => ?_, fun a ob z => ?_, h.inj, h.clean, h.bs, h.xo⟩
  · have z : upd w.F p o q = some u := z
    by_cases hq : q = p
    · subst hq
      rw [upd_same] at z ⊢
      exact z
    · rw [upd_ne hq] at z ⊢
      exact h.fr q u z
  · obtain ⟨h1, h2, h3⟩ := h.ac q u z
    have hq : q ≠ p := ne_of_none h1 e
    exact ⟨by rw [upd_ne hq]; exact h1, by show upd w.F p o q = none; rw [upd_ne hq]; exact h2, h3⟩
  · obtain ⟨h1, h2, h3⟩ := h.cell a ob z
    refine ⟨(h1.mono (Wd.fz_le (h.none_F e)) fun q hq f => ?_).heap (upd_keep e), ?_, h3⟩
    · show upd w.F p o q = none
      rw [upd_ne (ne_of_none hq e)]
      exact f
    · show upd w.F p o (w.i a) = none
      rw [upd_ne (h.none_i e (h.lt z))]
      exact h2
/-- a world with one more cell -/
def Wd.push (w : Wd) (p : Addr) : Wd := { w with n := w.n + 1, i := fun a => if a = w.n then p else w.i a }
theorem Wd.push_le {w : Wd} {p : Addr} : w.le (w.push p) := ⟨Nat.le_succ _, fun a ha => if_neg (Nat.ne_of_lt ha), fun _ _ e => e, fun _ _ e => e, rfl⟩
theorem Wd.push_i {w : Wd} {p : Addr} : (w.push p).i w.n = p := if_pos rfl
theorem HRel.push {w : Wd} {cs : Cells} {H : Hp} (h : HRel K w Bs cs H) {p : Addr} {ob : Ob} (hF : w.F p = none) (hA : w.A p = none) (hi : ∀ a, a < w.n → w.i a ≠ p) (r : RepOb K w H p ob) : HRel K (w.push p) Bs (cs ++ [ob]) H := by
  have hc : ∀ a o, (cs ++ [ob])[a]? = some o → (a < w.n ∧ cs[a]? = some o) ∨ (a = w.n ∧ o = ob) := fun a o z => by
    by_cases ha : a < cs.length
    · rw [List.getElem?_append_left ha] at z
      exact .inl ⟨by rw [h.n]; exact ha, z⟩
    · rw [List.getElem?_append_right (by omega)] at z
      by_cases h0 : a - cs.length = 0
      · rw [h0] at z
        exact .inr ⟨by rw [h.n]; omega, (Option.some.inj z).symm⟩
      · rw [List.getElem?_eq_none (by simp; omega)] at z
        cases z
  refine ⟨by show w.n + 1 = _; rw [h.n, List.length_append]; rfl, h.fr, h.ac, fun a o z => ?_, fun a b ha hb e => ?_, fun b hb a o ha z => ?_, fun b hb => ?_, h.xo⟩
  · rcases hc a o z with ⟨ha, z⟩ | ⟨rfl, rfl⟩
    · obtain ⟨h1, h2⟩ := h.cell a o z
      rw [show (w.push p).i a = w.i a from if_neg (Nat.ne_of_lt ha)]
      exact ⟨h1.mono Wd.push_le fun _ _ f => f, h2⟩
    · rw [Wd.push_i]
      exact ⟨r.mono Wd.push_le fun _ _ f => f, hF, hA⟩
  · have ha : a < w.n + 1 := ha
    have hb : b < w.n + 1 := hb
    by_cases ea : a = w.n
    · by_cases eb : b = w.n
      · rw [ea, eb]
      · rw [ea, Wd.push_i, show (w.push p).i b = w.i b from if_neg eb] at e
        exact absurd e.symm (hi b (by omega))
    · by_cases eb : b = w.n
      · rw [eb, Wd.push_i, show (w.push p).i a = w.i a from if_neg ea] at e
        exact absurd e (hi a (by omega))
      · rw [show (w.push p).i a = w.i a from if_neg ea, show (w.push p).i b = w.i b from if_neg eb] at e
        exact h.inj a b (by omega) (by omega) e
  · rcases hc a o z with ⟨_, z⟩ | ⟨e, _⟩
    · exact h.clean b hb a o ha z
    · have := h.bs b hb
      rw [h.n] at e
      omega
  · rw [List.length_append]
    exact Nat.le_trans (h.bs b hb) (Nat.le_add_right _ _)
/-- a cell written -/
theorem HRel.wr {w : Wd} {cs : Cells} {H : Hp} (h : HRel K w Bs cs H) {a : Nat} {o ob : Ob} {u : HO} (e : cs[a]? = some o) (r : RepOb K w (upd H (w.i a) u) (w.i a) ob) (hu : cellHO u = true)
    (hcl : ∀ b, b ∈ Bs → a < b → ob.undr b = true) : HRel K w Bs (cs.set a ob) (upd H (w.i a) u) := by
  obtain ⟨h1, h2, h3⟩ := h.cell a o e
  obtain ⟨u0, hu0, k0⟩ := h1.kind
  have ha := h.lt e
  have hl : a < cs.length := (List.getElem?_eq_some_iff.mp e).1
  refine ⟨by rw [List.length_set]; exact h.n, fun q v z => ?_, fun q v z => ?_, fun c oc z => ?_, h.inj, fun b hb c oc hc z => ?_, fun b hb => by rw [List.length_set]; exact h.bs b hb, h.xo⟩
  · rw [upd_ne (fun y => by rw [y, h2] at z; cases z)]
    exact h.fr q v z
  · rw [upd_ne (fun y => by rw [y, h3] at z; cases z)]
    exact h.ac q v z
  · by_cases hca : c = a
    · subst hca
      rw [List.getElem?_set_self hl] at z
      cases z
      exact ⟨r, h2, h3⟩
    · rw [List.getElem?_set_ne (Ne.symm hca)] at z
      obtain ⟨g1, g2⟩ := h.cell c oc z
      refine ⟨?_, g2⟩
      have hne : w.i c ≠ w.i a := fun y => hca (h.inj c a (h.lt z) ha y)
      have ho : ∀ q, H q = some (.own (w.i c)) → q ≠ w.i a := fun q y z => by
        rw [z, hu0] at y
        cases y
        cases k0
      cases oc with
      | lst xs =>
        obtain ⟨ys, q, r⟩ := g1
        exact ⟨ys, by rw [upd_ne hne]; exact q, r⟩
      | dct xs =>
        obtain ⟨ys, q, r⟩ := g1
        exact ⟨ys, by rw [upd_ne hne]; exact q, r⟩
      | ins C fs =>
        obtain ⟨dx, gs, q, d, f, r⟩ := g1
        exact ⟨dx, gs, by rw [upd_ne hne]; exact q, by rw [upd_ne (ho dx d)]; exact d, f, r⟩
  · by_cases hca : c = a
    · subst hca
      rw [List.getElem?_set_self hl] at z
      cases z
      exact hcl b hb hc
    · rw [List.getElem?_set_ne (Ne.symm hca)] at z
      exact h.clean b hb c oc hc z
end

/-! ### without cells -/
mutual
theorem pure_undr (b : Nat) : ∀ v : Val, v.pure = true → v.undr b = true
  | .tup xs, h => pureL_undr b xs (by simpa [Val.pure] using h)
  | .lst xs, h => pureL_undr b xs (by simpa [Val.pure] using h)
  | .dct xs, h => pureD_undr b xs (by simpa [Val.pure] using h)
  | .obj _ fs, h => pureF_undr b fs (by simpa [Val.pure] using h)
  | .ref _, h => by simp [Val.pure] at h
  | .exn _ _, h => by simp [Val.pure] at h
  | .non, _ => rfl
  | .bl _, _ => rfl
  | .int _, _ => rfl
  | .str _, _ => rfl
  | .glo _, _ => rfl
  | .scr _, _ => rfl
theorem pureL_undr (b : Nat) : ∀ v : List Val, Val.pureL v = true → Val.undrL b v = true
  | [], _ => rfl
  | x :: xs, h => by
    have h : (x.pure && Val.pureL xs) = true := h
    rw [Bool.and_eq_true] at h
    show (x.undr b && Val.undrL b xs) = true
    rw [pure_undr b x h.1, pureL_undr b xs h.2]
    rfl
theorem pureD_undr (b : Nat) : ∀ v : List (Val × Val), Val.pureD v = true → Val.undrD b v = true
  | [], _ => rfl
  | (k, x) :: xs, h => by
    have h : (k.pure && (x.pure && Val.pureD xs)) = true := h
    rw [Bool.and_eq_true, Bool.and_eq_true] at h
    show (k.undr b && (x.undr b && Val.undrD b xs)) = true
    rw [pure_undr b k h.1, pure_undr b x h.2.1, pureD_undr b xs h.2.2]
    rfl
theorem pureF_undr (b : Nat) : ∀ v : List (Str × Val), Val.pureF v = true → Val.undrF b v = true
  | [], _ => rfl
  | (k, x) :: xs, h => by
    have h : (x.pure && Val.pureF xs) = true := h
    rw [Bool.and_eq_true] at h
    show (x.undr b && Val.undrF b xs) = true
    rw [pure_undr b x h.1, pureF_undr b xs h.2]
    rfl
end
theorem undrL_append {b : Nat} : ∀ {xs ys : List Val}, Val.undrL b xs = true → Val.undrL b ys = true → Val.undrL b (xs ++ ys) = true
  | [], _, _, h => h
  | x :: xs, ys, h, g => by
    have h : (x.undr b && Val.undrL b xs) = true := h
    rw [Bool.and_eq_true] at h
    show (x.undr b && Val.undrL b (xs ++ ys)) = true
    rw [h.1, undrL_append h.2 g]
    rfl
theorem undrL_dropLast {b : Nat} : ∀ {xs : List Val}, Val.undrL b xs = true → Val.undrL b xs.dropLast = true
  | [], h => h
  | [x], _ => rfl
  | x :: y :: xs, h => by
    have h : (x.undr b && Val.undrL b (y :: xs)) = true := h
    rw [Bool.and_eq_true] at h
    show (x.undr b && Val.undrL b (y :: xs).dropLast) = true
    rw [h.1, undrL_dropLast h.2]
    rfl
theorem undrL_set {b : Nat} {v : Val} (hv : v.undr b = true) : ∀ {xs : List Val} (n : Nat), Val.undrL b xs = true → Val.undrL b (xs.set n v) = true
  | [], _, h => h
  | x :: xs, 0, h => by
    have h : (x.undr b && Val.undrL b xs) = true := h
    rw [Bool.and_eq_true] at h
    show (v.undr b && Val.undrL b xs) = true
    rw [hv, h.2]
    rfl
  | x :: xs, n + 1, h => by
    have h : (x.undr b && Val.undrL b xs) = true := h
    rw [Bool.and_eq_true] at h
    show (x.undr b && Val.undrL b (xs.set n v)) = true
    rw [h.1, undrL_set hv n h.2]
    rfl
theorem undrF_put {b : Nat} {f : Str} {v : Val} (hv : v.undr b = true) : ∀ {fs : List (Str × Val)}, Val.undrF b fs = true → Val.undrF b (fPut f v fs) = true
  | [], _ => by
    show (v.undr b && true) = true
    rw [hv]
    rfl
  | (g, u) :: r, h => by
    have h : (u.undr b && Val.undrF b r) = true := h
    rw [Bool.and_eq_true] at h
    unfold fPut
    by_cases e : g = f
    · rw [if_pos e]
      show (v.undr b && Val.undrF b r) = true
      rw [hv, h.2]
      rfl
    · rw [if_neg e]
      show (u.undr b && Val.undrF b (fPut f v r)) = true
      rw [h.1, undrF_put hv h.2]
      rfl
theorem undrD_append {b : Nat} : ∀ {xs ys : List (Val × Val)}, Val.undrD b xs = true → Val.undrD b ys = true → Val.undrD b (xs ++ ys) = true
  | [], _, _, h => h
  | (k, x) :: xs, ys, h, g => by
    have h : (k.undr b && (x.undr b && Val.undrD b xs)) = true := h
    rw [Bool.and_eq_true, Bool.and_eq_true] at h
    show (k.undr b && (x.undr b && Val.undrD b (xs ++ ys))) = true
    rw [h.1, h.2.1, undrD_append h.2.2 g]
    rfl
theorem undrD_map {b : Nat} {k v : Val} (hv : v.undr b = true) : ∀ {ds : List (Val × Val)}, Val.undrD b ds = true → Val.undrD b (ds.map (fun p => if p.1.keyEq k = true then (p.1, v) else p)) = true
  | [], h => h
  | (x, u) :: r, h => by
    have h : (x.undr b && (u.undr b && Val.undrD b r)) = true := h
    rw [Bool.and_eq_true, Bool.and_eq_true] at h
    rw [List.map_cons]
    by_cases e : x.keyEq k = true
    · rw [if_pos e]
      show (x.undr b && (v.undr b && Val.undrD b _)) = true
      rw [h.1, hv, undrD_map hv h.2.2]
      rfl
    · rw [if_neg e]
      show (x.undr b && (u.undr b && Val.undrD b _)) = true
      rw [h.1, h.2.1, undrD_map hv h.2.2]
      rfl
theorem undrD_put {b : Nat} {k v : Val} (hk : k.undr b = true) (hv : v.undr b = true) {ds : List (Val × Val)} (h : Val.undrD b ds = true) : Val.undrD b (dPut k v ds) = true := by
  unfold dPut
  split
  · exact undrD_map hv h
  · refine undrD_append h ?_
    show (k.undr b && (v.undr b && true)) = true
    rw [hk, hv]
    rfl
theorem undrD_del {b : Nat} {k : Val} : ∀ {ds : List (Val × Val)}, Val.undrD b ds = true → Val.undrD b (dDel k ds) = true
  | [], h => h
  | (x, u) :: r, h => by
    have h' : (x.undr b && (u.undr b && Val.undrD b r)) = true := h
    rw [Bool.and_eq_true, Bool.and_eq_true] at h'
    unfold dDel
    rw [List.filter_cons]
    split
    · show (x.undr b && (u.undr b && Val.undrD b (dDel k r))) = true
      rw [h'.1, h'.2.1, undrD_del h'.2.2]
      rfl
    · exact undrD_del h'.2.2
end EV
/-! SdA: readings weakened; fresh lists and dicts; names, displays. -/
namespace EV
open PySem PySem.Spec PyProof.Rows L2

theorem PE.imp {X : Cx} {e : Expr} {t t' : TE} (h : PE X e t) (k : ∀ σ H Q, t' σ H Q → t σ H Q) : PE X e t' := ⟨fun pins s σ H Q I q => h.run pins s σ H Q I (k σ H Q q)⟩
theorem PT.imp {X : Cx} {e : Expr} {t t' : TT} (h : PT X e t) (k : ∀ σ H Q, t' σ H Q → t σ H Q) : PT X e t' := ⟨fun pins s σ H Q I q => h.run pins s σ H Q I (k σ H Q q)⟩
theorem PA.imp {X : Cx} {e : List Expr} {t t' : TA} (h : PA X e t) (k : ∀ σ H Q, t' σ H Q → t σ H Q) : PA X e t' := ⟨fun pos pins s σ H Q I q => h.run pos pins s σ H Q I (k σ H Q q)⟩
theorem PS.imp {X : Cx} {e : Stmt} {t t' : TS} (h : PS X e t) (k : ∀ D σ H, t' D σ H → t D σ H) : PS X e t' := ⟨fun pins s σ H D I q => h.run pins s σ H D I (k D σ H q)⟩
theorem PSs.imp {X : Cx} {e : List Stmt} {t t' : TS} (h : PSs X e t) (k : ∀ D σ H, t' D σ H → t D σ H) : PSs X e t' := ⟨fun pins s σ H D I q => h.run pins s σ H D I (k D σ H q)⟩
theorem line_of {n : Nat} (h : sizeOk n = true) : n ≤ sizeLine := by
  rw [sizeLine_eq]
  exact Nat.le_of_ble_eq_true h

def isLD : Val → Bool
  | .lst _ => true
  | .dct _ => true
  | _ => false
/-- lists and dicts fresh -/
def rN (K : Fg) : RP Val V := fun w H v x => match v with
  | .lst xs => ∃ p ys, x = .ref p ∧ H p = some (.lst ys) ∧ w.F p = none ∧ w.A p = none ∧ (∀ a, a < w.n → w.i a ≠ p) ∧ RepL K w xs ys
  | .dct kvs => ∃ p ds, x = .ref p ∧ H p = some (.dK ds) ∧ w.F p = none ∧ w.A p = none ∧ (∀ a, a < w.n → w.i a ≠ p) ∧ RepD K w kvs ds
  | v => RepV K w v x

section
variable {K : Fg} {w : Wd} {Bs : BX} {cs : Cells} {H : Hp}
/-- an object frozen from here on -/
theorem HRel.fz (h : HRel K w Bs cs H) {p : Addr} {o u : HO} (e : H p = some u) (hF : w.F p = none) (hA : w.A p = none) (hi : ∀ a, a < w.n → w.i a ≠ p) (hu : ∀ q, u ≠ .own q) : HRel K (w.fz p o) Bs cs (upd H p o) := by
  refine ⟨h.n, fun q u z => ?_, fun q u z => ?_, fun a ob z => ?_, h.inj, h.clean, h.bs, h.xo⟩
  · have z : upd w.F p o q = some u := z
    by_cases hq : q = p
    · subst hq
      rw [upd_same] at z ⊢
      exact z
    · rw [upd_ne hq] at z ⊢
      exact h.fr q u z
  · obtain ⟨h1, h2, h3⟩ := h.ac q u z
    have z : w.A q = some u := z
    have hq : q ≠ p := fun y => by rw [y, hA] at z; cases z
    exact ⟨by rw [upd_ne hq]; exact h1, by show upd w.F p o q = none; rw [upd_ne hq]; exact h2, h3⟩
  · obtain ⟨h1, h2, h3⟩ := h.cell a ob z
    have hne : w.i a ≠ p := hi a (h.lt z)
    have hdn : ∀ dx, H dx = some (.own (w.i a)) → dx ≠ p := fun dx d y => by
      rw [y, e] at d
      cases d
      exact hu _ rfl
    refine ⟨?_, ?_, h3⟩
    · show RepOb K (w.fz p o) (upd H p o) (w.i a) ob
      cases ob with
      | lst xs =>
        obtain ⟨ys, q, r⟩ := h1
        exact ⟨ys, by rw [upd_ne hne]; exact q, r.mono (Wd.fz_le hF)⟩
      | dct xs =>
        obtain ⟨ys, q, r⟩ := h1
        exact ⟨ys, by rw [upd_ne hne]; exact q, r.mono (Wd.fz_le hF)⟩
      | ins C fs =>
        obtain ⟨dx, gs, q, d, f, r⟩ := h1
        have hd := hdn dx d
        exact ⟨dx, gs, by rw [upd_ne hne]; exact q, by rw [upd_ne hd]; exact d, by show upd w.F p o dx = none; rw [upd_ne hd]; exact f, r.mono (Wd.fz_le hF)⟩
    · show upd w.F p o (w.i a) = none
      rw [upd_ne hne]
      exact h2
theorem HRel.none_A (h : HRel K w Bs cs H) {p : Addr} (e : H p = none) : w.A p = none := by
  cases q : w.A p with
  | none => rfl
  | some o =>
    have := (h.ac p o q).1
    rw [e] at this
    cases this
theorem upd_id {H : Hp} {p : Addr} {o : HO} (e : H p = some o) : upd H p o = H := by
  funext q
  by_cases h : q = p
  · subst h
    rw [upd_same, e]
  · rw [upd_ne h]
theorem HRel.fzSame (h : HRel K w Bs cs H) {p : Addr} {o : HO} (e : H p = some o) (hF : w.F p = none) (hA : w.A p = none) (hi : ∀ a, a < w.n → w.i a ≠ p) (hu : ∀ q, o ≠ .own q) : HRel K (w.fz p o) Bs cs H := by
  have := h.fz (o := o) e hF hA hi hu
  rw [upd_id e] at this
  exact this
theorem fz_at {p : Addr} {o : HO} : (w.fz p o).F p = some o := upd_same
/-- what stands for a value, in the heap -/
theorem HRel.lst_ (h : HRel K w Bs cs H) {v : Val} {x : V} {xs : List Val} (r : RepV K w v x) (e : lstOf cs v = some xs) : ∃ p ys, x = .ref p ∧ H p = some (.lst ys) ∧ RepL K w xs ys := by
  cases r with
  | lst q r =>
    cases e
    exact ⟨_, _, rfl, h.fr _ _ q, r⟩
  | ref ha =>
    rename_i a
    unfold lstOf at e
    cases q : cs[a]? with
    | none => simp [q] at e
    | some o =>
      cases o with
      | lst ys =>
        simp [q] at e
        subst e
        have h1 := (h.cell a _ q).1
        obtain ⟨ys, h1, r⟩ := h1
        exact ⟨_, _, rfl, h1, r⟩
      | dct _ => simp [q] at e
      | ins _ _ => simp [q] at e
  | _ => cases e
theorem HRel.tup_ (h : HRel K w Bs cs H) {v : Val} {x : V} {xs : List Val} (r : RepV K w v x) (e : tupOf v = some xs) : ∃ p ys, x = .ref p ∧ SqT K H p ys ∧ RepL K w xs ys := by
  cases r with
  | tup q r =>
    cases e
    exact ⟨_, _, rfl, sqT_mono h.fr q, r⟩
  | _ => cases e
theorem HRel.seq_ (h : HRel K w Bs cs H) {v : Val} {x : V} {xs : List Val} (r : RepV K w v x) (e : seqOf cs v = some xs) : ∃ p ys, x = .ref p ∧ (SqT K H p ys ∨ SqL K H p ys) ∧ RepL K w xs ys := by
  unfold seqOf at e
  cases q : tupOf v with
  | some zs =>
    rw [q] at e
    cases e
    obtain ⟨p, ys, h1, h2, h3⟩ := h.tup_ r q
    exact ⟨p, ys, h1, .inl h2, h3⟩
  | none =>
    rw [q] at e
    obtain ⟨p, ys, h1, h2, h3⟩ := h.lst_ r e
    exact ⟨p, ys, h1, .inr (SqL.of h2), h3⟩
theorem HRel.dct_ (h : HRel K w Bs cs H) {v : Val} {x : V} {xs : List (Val × Val)} (r : RepV K w v x) (e : dctOf cs v = some xs) : ∃ p ds, x = .ref p ∧ Rd H p (.dK ds) ∧ RepD K w xs ds := by
  cases r with
  | dct q r =>
    cases e
    exact ⟨_, _, rfl, .inr ⟨_, h.fr _ _ q⟩, r⟩
  | ref ha =>
    rename_i a
    unfold dctOf at e
    cases q : cs[a]? with
    | none => simp [q] at e
    | some o =>
      cases o with
      | dct ys =>
        simp [q] at e
        subst e
        have h1 := (h.cell a _ q).1
        obtain ⟨ys, h1, r⟩ := h1
        exact ⟨_, _, rfl, .inl h1, r⟩
      | lst _ => simp [q] at e
      | ins _ _ => simp [q] at e
  | _ => cases e
theorem HRel.ins_ (h : HRel K w Bs cs H) {v : Val} {x : V} {C : Str} {fs : List (Str × Val)} (r : RepV K w v x) (e : insOf cs v = some (C, fs)) : ∃ p dx gs, x = .ref p ∧ H p = some (.ins (He.ga K C) dx gs) ∧ H dx = some (.own p) ∧ RepF K w fs gs := by
  cases r with
  | obj q d r =>
    cases e
    exact ⟨_, _, _, rfl, h.fr _ _ q, h.fr _ _ d, r⟩
  | ref ha =>
    rename_i a
    unfold insOf at e
    cases q : cs[a]? with
    | none => simp [q] at e
    | some o =>
      cases o with
      | ins D gs =>
        simp [q] at e
        obtain ⟨rfl, rfl⟩ := e
        have h1 := (h.cell a _ q).1
        obtain ⟨dx, gs, h1, d, _, r⟩ := h1
        exact ⟨_, _, _, rfl, h1, d, r⟩
      | lst _ => simp [q] at e
      | dct _ => simp [q] at e
  | _ => cases e
theorem rN_of {v : Val} {x : V} (h : isLD v = false) (r : RepV K w v x) : rN K w H v x := by
  cases v with
  | lst _ => cases h
  | dct _ => cases h
  | _ => exact r
theorem rN_to {v : Val} {x : V} (h : isLD v = false) (r : rN K w H v x) : RepV K w v x := by
  cases v with
  | lst _ => cases h
  | dct _ => cases h
  | _ => exact r
/-- a new list laid -/
theorem HRel.newL (h : HRel K w Bs cs H) {p : Addr} {xs : List Val} {ys : List V} (e : H p = none) (r : RepL K w xs ys) : HRel K w Bs cs (upd H p (.lst ys)) ∧ rN K w (upd H p (.lst ys)) (.lst xs) (.ref p) := by
  refine ⟨⟨h.n, fun q u z => upd_keep e q u (h.fr q u z), fun q u z => ⟨upd_keep e q u (h.ac q u z).1, (h.ac q u z).2⟩, fun a ob z => ?_, h.inj, h.clean, h.bs, h.xo⟩, p, ys, rfl, upd_same, h.none_F e, h.none_A e, fun a ha => h.none_i e ha, r⟩
  obtain ⟨h1, h2⟩ := h.cell a ob z
  exact ⟨h1.heap (upd_keep e), h2⟩
theorem HRel.newD (h : HRel K w Bs cs H) {p : Addr} {xs : List (Val × Val)} {ys : List (Key × V)} (e : H p = none) (r : RepD K w xs ys) : HRel K w Bs cs (upd H p (.dK ys)) ∧ rN K w (upd H p (.dK ys)) (.dct xs) (.ref p) := by
  refine ⟨⟨h.n, fun q u z => upd_keep e q u (h.fr q u z), fun q u z => ⟨upd_keep e q u (h.ac q u z).1, (h.ac q u z).2⟩, fun a ob z => ?_, h.inj, h.clean, h.bs, h.xo⟩, p, ys, rfl, upd_same, h.none_F e, h.none_A e, fun a ha => h.none_i e ha, r⟩
  obtain ⟨h1, h2⟩ := h.cell a ob z
  exact ⟨h1.heap (upd_keep e), h2⟩
/-- a new tuple laid -/
theorem HRel.newT (h : HRel K w Bs cs H) {p : Addr} {xs : List Val} {ys : List V} (e : H p = none) (r : RepL K w xs ys) : w.le (w.fz p (.tup ys)) ∧ HRel K (w.fz p (.tup ys)) Bs cs (upd H p (.tup ys)) ∧ rN K (w.fz p (.tup ys)) (upd H p (.tup ys)) (.tup xs) (.ref p) :=
  ⟨Wd.fz_le (h.none_F e), h.new e _, .tup (SqT.of fz_at) (r.mono (Wd.fz_le (h.none_F e)))⟩
end

section
variable {X : Cx} {Bs : BX} {W : WX} {e : Expr}
/-- fresh ones frozen -/
theorem PE.fz {f : LSt → Cells → R Val} (h : PE X e (T X.K Bs (rN X.K) W f)) : PE X e (T X.K Bs (rV X.K) W f) := by
  refine ⟨fun pins s σ H Q I hq => ?_⟩
  obtain ⟨w, st, cs, hs, hh, hr⟩ := hq
  refine thn (h.run pins s σ H (fun x H1 => Q x H1 ∨ ∃ p ds, x = .ref p ∧ H1 p = some (.dK ds) ∧ ∀ od, Q x (upd H1 p (.frz od (.dK ds)))) I ⟨w, st, cs, hs, hh, ?_⟩) fun u s1 ⟨x, H1, I1, r1, q1⟩ => ?_
  · cases ef : f st cs with
    | bad =>
      rw [ef] at hr
      exact hr
    | exc x cs1 =>
      rw [ef] at hr
      exact hr
    | ok a cs1 =>
      rw [ef] at hr
      intro w' x H' l hh' rp
      by_cases ha : isLD a = true
      · cases a with
        | lst xs =>
          obtain ⟨p, ys, rfl, hp, hF, hA, hi, r⟩ := rp
          have hl := Wd.fz_le (o := .lst ys) hF
          exact .inl (hr (w'.fz p (.lst ys)) _ H' (l.trans hl) (hh'.fzSame hp hF hA hi fun _ z => nomatch z) (.lst fz_at (r.mono hl)))
        | dct xs =>
          obtain ⟨p, ys, rfl, hp, hF, hA, hi, r⟩ := rp
          refine .inr ⟨p, ys, rfl, hp, fun od => ?_⟩
          have hl := Wd.fz_le (o := .frz od (.dK ys)) hF
          exact hr (w'.fz p (.frz od (.dK ys))) _ _ (l.trans hl) (hh'.fz hp hF hA hi fun _ z => nomatch z) (.dct fz_at (r.mono hl))
        | _ => cases ha
      · exact .inl (hr w' x H' l hh' (rN_to (by simpa using ha) rp))
  · rcases q1 with q1 | ⟨p, ds, rfl, hp, q1⟩
    · exact ⟨x, H1, I1, r1, q1⟩
    · obtain ⟨od, I2⟩ := I1.lock hp trivial
      exact ⟨.ref p, _, I2, r1, q1 od⟩
/-- a fresh one made a cell -/
theorem PE.cel {f : LSt → Cells → R Val} (h : PE X e (T X.K Bs (rN X.K) W f)) : PE X e (T X.K Bs (rV X.K) W fun s cs => (f s cs).bind fun v cs => mkC v cs) := by
  refine PE.imp h fun σ H Q hq => T.bind (g := fun _ v cs => mkC v cs) hq fun w' s a x cs H1 hs hh r run => ?_
  cases a with
  | lst xs =>
    obtain ⟨p, ys, rfl, hp, hF, hA, hi, r⟩ := r
    refine Run.done' run (w' := w'.push p) Wd.push_le (hh.push hF hA hi (ob := .lst xs) ⟨ys, hp, r⟩) ?_
    have := RepV.ref (K := X.K) (w := w'.push p) (a := w'.n) (Nat.lt_succ_self _)
    rw [Wd.push_i] at this
    rw [← hh.n]
    exact this
  | dct xs =>
    obtain ⟨p, ys, rfl, hp, hF, hA, hi, r⟩ := r
    refine Run.done' run (w' := w'.push p) Wd.push_le (hh.push hF hA hi (ob := .dct xs) ⟨ys, hp, r⟩) ?_
    have := RepV.ref (K := X.K) (w := w'.push p) (a := w'.n) (Nat.lt_succ_self _)
    rw [Wd.push_i] at this
    rw [← hh.n]
    exact this
  | _ => exact run.elim
end

section
variable {X : Cx} {Bs : BX} {W : WX} {G : Gl} {cl : CallF} {base : Nat} {pos : Pos}
abbrev TV (X : Cx) (Bs : BX) (W : WX) (f : LSt → Cells → R Val) : TE := T X.K Bs (rV X.K) W f
abbrev TN (X : Cx) (Bs : BX) (W : WX) (f : LSt → Cells → R Val) : TE := T X.K Bs (rN X.K) W f
abbrev TL (X : Cx) (Bs : BX) (W : WX) (f : LSt → Cells → R (List Val)) : TA := T X.K Bs (rL X.K) W f
theorem PE.nf {e : Expr} {f : LSt → Cells → R Val} (hf : ∀ s cs v cs', f s cs = .ok v cs' → isLD v = false) (h : PE X e (TV X Bs W f)) : PE X e (TN X Bs W f) := by
  refine PE.imp h fun σ H Q ⟨w, s, cs, hs, hh, hr⟩ => ⟨w, s, cs, hs, hh, ?_⟩
  cases ef : f s cs with
  | bad =>
    rw [ef] at hr
    exact hr
  | exc x cs1 =>
    rw [ef] at hr
    exact hr
  | ok a cs1 =>
    rw [ef] at hr
    exact fun w' x H' l hh' rp => hr w' x H' l hh' (rN_of (hf _ _ _ _ ef) rp)

/-! ### names, constants -/
theorem sd_var {i : Nat} {x : Str} (hN : X.N[i]? = some x) (hv : Vis X.env.scope x) (hd : (x == ("__debug__" : Str)) = false) (hcd : (x == ("__classdict__" : Str)) = false) : PE X (.Name x pos) (TV X Bs W (evE G cl base (.var i))) := by
  refine PE.imp (pe_var hN hv hd hcd) fun σ H Q ⟨w, s, cs, hs, hh, hr⟩ => ?_
  obtain ⟨v, e, hr⟩ := Run.some_ (o := getS s i) hr
  have e : s[i]? = some (some v) := by
    unfold getS at e
    cases q : s[i]? with
    | none => rw [q] at e; cases e
    | some o =>
      rw [q] at e
      cases o with
      | none => cases e
      | some u => cases e; rfl
  obtain ⟨y, h1, h2⟩ := hs.at_ i v e
  exact ⟨y, h1, hr.done hh h2⟩
theorem sd_const {e : Expr} {v : Val} {x : V} (h : PE X e (tC x)) (r : ∀ w, RepV X.K w v x) : PE X e (TV X Bs W (evE G cl base (.val v))) :=
  PE.imp h fun σ H Q ⟨w, s, cs, hs, hh, hr⟩ => Run.done (a := v) hr hh (r w)
theorem sd_glo {e : Expr} {x : Str} {y : V} (h : PE X e (tC y)) (r : ∀ v, gloV G x = some v → ∀ w, RepV X.K w v y) : PE X e (TV X Bs W (evE G cl base (.glo x))) :=
  PE.imp h fun σ H Q ⟨w, s, cs, hs, hh, hr⟩ => by
    obtain ⟨v, e, hr⟩ := Run.some_ (o := gloV G x) hr
    exact Run.done hr hh (r v e w)

/-! ### lists of expressions, displays -/
theorem sd_nil : PA X [] (TL X Bs W (evEs G cl base .nil)) := PA.imp pa_nil fun σ H Q ⟨w, s, cs, hs, hh, hr⟩ => Run.done (a := []) hr hh .nil
theorem sd_cons {e : Expr} {es : List Expr} {c : E} {cr : Es} (ha : PE X e (TV X Bs W (evE G cl base c))) (hr : PA X es (TL X Bs W (evEs G cl base cr))) (hs : starEach (e :: es) X.env = (false, eval e X.env) :: starEach es X.env) :
    PA X (e :: es) (TL X Bs W (evEs G cl base (.cons c cr))) :=
  PA.imp (pa_cons ha hr hs) fun σ H Q h => T.bind (g := fun s v cs => (evEs G cl base cr s cs).bind fun vs cs => .ok (v :: vs) cs) h fun w s a x cs H1 hs hh r run =>
    T.next hs hh run fun w1 as xs cs1 H2 l hh2 r2 run2 => Run.done run2 hh2 (.cons (r.mono l) r2)
theorem sd_star {e : Expr} {es : List Expr} {c : E} {cr : Es} {p : Pos} (ha : PE X e (TV X Bs W (evE G cl base c))) (hr : PA X es (TL X Bs W (evEs G cl base cr))) (hs : starEach (.Starred e p :: es) X.env = (true, eval e X.env) :: starEach es X.env) :
    PA X (.Starred e p :: es) (TL X Bs W (evEs G cl base (.star c cr))) :=
  PA.imp (StX.pa_star ha hr hs) fun σ H Q h => T.bind (g := fun s v cs => match seqOf cs v with
    | some xs => (evEs G cl base cr s cs).bind fun vs cs => .ok (xs ++ vs) cs
    | none => .bad) h fun w s a x cs H1 hs hh r run => by
    cases q : seqOf cs a with
    | none => simp only [q] at run; exact run.elim
    | some zs =>
      simp only [q] at run
      obtain ⟨p, ys, rfl, h1, h2⟩ := hh.seq_ r q
      exact ⟨p, ys, rfl, h1, T.next hs hh run fun w1 as xs cs1 H2 l hh2 r2 run2 => Run.done run2 hh2 ((h2.mono l).append r2)⟩
theorem sd_tup {es : List Expr} {c : Es} {x1} (h : PA X es (TL X Bs W (evEs G cl base c))) : PE X (.Tuple es x1 pos) (TV X Bs W (evE G cl base (.tup c))) :=
  PE.imp (pe_tup h) fun σ H Q h => T.bind (g := fun s vs cs => R.iff (sizeOk vs.length) (R.ok (Val.tup vs) cs)) h fun w s a x cs H1 hs hh r run => by
    obtain ⟨hz, run⟩ := run.iff_
    refine ⟨by rw [← r.length]; exact line_of hz, fun p hp => ?_⟩
    obtain ⟨l, hh', r'⟩ := hh.newT hp r
    exact Run.done' run l hh' r'
theorem sd_lst {es : List Expr} {c : Es} (h : PA X es (TL X Bs W (evEs G cl base c))) : PE X (.List es pos) (TN X Bs W (evE G cl base (.lst c))) :=
  PE.imp (pe_lst h) fun σ H Q h => T.bind (g := fun s vs cs => mkL vs cs) h fun w s a x cs H1 hs hh r run => by
    obtain ⟨hz, run⟩ := run.iff_
    refine ⟨by rw [← r.length]; exact line_of hz, fun p hp => ?_⟩
    obtain ⟨hh', r'⟩ := hh.newL hp r
    exact Run.done run hh' r'
end
end EV
/-! SdB: operators, comparisons, truth, subscripts. -/
namespace EV
open PySem PySem.Spec PyProof.Rows L2

/-! ### data -/
section
variable {K : Fg} {w : Wd} {H : Hp}
mutual
theorem dp_of (hF : ∀ p o, w.F p = some o → H p = some o) : ∀ (d : Nat) (v : Val) (x : V), v.data d = true → RepV K w v x → Dp K H x v.py
  | d, .non, _, _, .non => .non
  | d, .bl _, _, _, .bl b => .bl b
  | d, .int _, _, _, .int i => .int i
  | d, .str _, _, _, .str s => .str _
  | d + 1, .lst xs, _, h, .lst q r => .lst (SqL.of (hF _ _ q)) (dpl_of hF d xs _ h r)
  | d + 1, .tup xs, _, h, .tup q r => .tup (sqT_mono hF q) (dpl_of hF d xs _ h r)
  | 0, .lst _, _, h, _ => nomatch h
  | 0, .tup _, _, h, _ => nomatch h
  | 0, .dct _, _, h, _ => nomatch h
  | 0, .obj _ _, _, h, _ => nomatch h
  | 0, .ref _, _, h, _ => nomatch h
  | 0, .glo _, _, h, _ => nomatch h
  | 0, .exn _ _, _, h, _ => nomatch h
  | 0, .scr _, _, h, _ => nomatch h
  | _ + 1, .dct _, _, h, _ => nomatch h
  | _ + 1, .obj _ _, _, h, _ => nomatch h
  | _ + 1, .ref _, _, h, _ => nomatch h
  | _ + 1, .glo _, _, h, _ => nomatch h
  | _ + 1, .exn _ _, _, h, _ => nomatch h
  | _ + 1, .scr _, _, h, _ => nomatch h
theorem dpl_of (hF : ∀ p o, w.F p = some o → H p = some o) : ∀ (d : Nat) (v : List Val) (x : List V), Val.dataL d v = true → RepL K w v x → DpAll K H x (Val.pyL v)
  | d, [], _, _, .nil => .nil
  | d, x :: xs, _, h, .cons q r => by
    have h : (Val.data d x && Val.dataL d xs) = true := by
      cases d <;> exact h
    rw [Bool.and_eq_true] at h
    exact .cons (dp_of hF d x _ h.1 q) (dpl_of hF d xs _ h.2 r)
end
end
mutual
theorem canLay_of : ∀ (d : Nat) (v : Val), v.data d = true → PyData.canLay0 v.py = true ∧ PyData.depth v.py ≤ d
  | d, .non, _ => ⟨rfl, Nat.zero_le _⟩
  | d, .bl _, _ => ⟨rfl, Nat.zero_le _⟩
  | d, .int _, _ => ⟨rfl, Nat.zero_le _⟩
  | d, .str s, h => by
    have h : s.all (Nat.blt · 1114112) = true := by cases d <;> exact h
    refine ⟨?_, Nat.zero_le _⟩
    show PyData.strOk (tS s) = true
    unfold PyData.strOk
    rw [← Array.all_toList]
    rw [List.all_eq_true] at h ⊢
    intro x hx
    have := h x hx
    exact decide_eq_true (Nat.le_of_ble_eq_true this)
  | d + 1, .lst xs, h => by
    obtain ⟨h1, h2⟩ := canLayL_of d xs h
    exact ⟨h1, Nat.succ_le_succ h2⟩
  | d + 1, .tup xs, h => by
    obtain ⟨h1, h2⟩ := canLayL_of d xs h
    exact ⟨h1, Nat.succ_le_succ h2⟩
  | 0, .lst _, h => nomatch h
  | 0, .tup _, h => nomatch h
  | 0, .dct _, h => nomatch h
  | 0, .obj _ _, h => nomatch h
  | 0, .ref _, h => nomatch h
  | 0, .glo _, h => nomatch h
  | 0, .exn _ _, h => nomatch h
  | 0, .scr _, h => nomatch h
  | _ + 1, .dct _, h => nomatch h
  | _ + 1, .obj _ _, h => nomatch h
  | _ + 1, .ref _, h => nomatch h
  | _ + 1, .glo _, h => nomatch h
  | _ + 1, .exn _ _, h => nomatch h
  | _ + 1, .scr _, h => nomatch h
theorem canLayL_of : ∀ (d : Nat) (v : List Val), Val.dataL d v = true → PyData.canLayAll0 (Val.pyL v) = true ∧ PyData.depthAll (Val.pyL v) ≤ d
  | d, [], _ => ⟨rfl, Nat.zero_le _⟩
  | d, x :: xs, h => by
    have h : (Val.data d x && Val.dataL d xs) = true := by
      cases d <;> exact h
    rw [Bool.and_eq_true] at h
    obtain ⟨a1, a2⟩ := canLay_of d x h.1
    obtain ⟨b1, b2⟩ := canLayL_of d xs h.2
    refine ⟨?_, Nat.max_le.mpr ⟨a2, b2⟩⟩
    show (PyData.canLay0 x.py && PyData.canLayAll0 (Val.pyL xs)) = true
    rw [a1, b1]
    rfl
end
theorem shaped_of {v : Val} (h : v.data deep = true) : SeqAt.shaped v.py = true := by
  obtain ⟨h1, h2⟩ := canLay_of _ v h
  have h2 : PyData.depth v.py ≤ 60 := h2
  unfold SeqAt.shaped
  rw [h1, decide_eq_true (show PyData.depth v.py ≤ 64 by omega)]
  rfl
mutual
theorem eqv_py : ∀ (d : Nat) (v u : Val), v.data d = true → u.data d = true → PyData.eqv v.py u.py = v.eqv u
  | d, .lst xs, .lst ys, h, g => by
    cases d with
    | zero => exact nomatch h
    | succ d => exact eqvL_py d xs ys h g
  | d, .tup xs, .tup ys, h, g => by
    cases d with
    | zero => exact nomatch h
    | succ d => exact eqvL_py d xs ys h g
  | d, .str x, .str y, _, _ => by
    show ((tS x) == (tS y)) = (x == y)
    by_cases e : x = y
    · subst e
      simp
    · rw [beq_eq_false_iff_ne.mpr e, beq_eq_false_iff_ne.mpr fun z => e ?_]
      have := congrArg (fun s : Str => s.cps.toList) z
      simpa using this
  | d, .non, u, _, g => by cases u <;> first | rfl | (cases d <;> exact nomatch g)
  | d, .bl _, u, _, g => by cases u <;> first | rfl | (cases d <;> exact nomatch g)
  | d, .int _, u, _, g => by cases u <;> first | rfl | (cases d <;> exact nomatch g)
  | d, .str _, .non, _, g => rfl
  | d, .str _, .bl _, _, g => rfl
  | d, .str _, .int _, _, g => rfl
  | d, .str _, .lst _, _, g => rfl
  | d, .str _, .tup _, _, g => rfl
  | d, .lst _, .non, _, g => rfl
  | d, .lst _, .bl _, _, g => rfl
  | d, .lst _, .int _, _, g => rfl
  | d, .lst _, .str _, _, g => rfl
  | d, .lst _, .tup _, _, g => rfl
  | d, .tup _, .non, _, g => rfl
  | d, .tup _, .bl _, _, g => rfl
  | d, .tup _, .int _, _, g => rfl
  | d, .tup _, .str _, _, g => rfl
  | d, .tup _, .lst _, _, g => rfl
  | d, .dct _, _, h, _ => by cases d <;> exact nomatch h
  | d, .obj _ _, _, h, _ => by cases d <;> exact nomatch h
  | d, .ref _, _, h, _ => by cases d <;> exact nomatch h
  | d, .glo _, _, h, _ => by cases d <;> exact nomatch h
  | d, .exn _ _, _, h, _ => by cases d <;> exact nomatch h
  | d, .scr _, _, h, _ => by cases d <;> exact nomatch h
  | d, _, .dct _, _, h => by cases d <;> exact nomatch h
  | d, _, .obj _ _, _, h => by cases d <;> exact nomatch h
  | d, _, .ref _, _, h => by cases d <;> exact nomatch h
  | d, _, .glo _, _, h => by cases d <;> exact nomatch h
  | d, _, .exn _ _, _, h => by cases d <;> exact nomatch h
  | d, _, .scr _, _, h => by cases d <;> exact nomatch h
theorem eqvL_py : ∀ (d : Nat) (v u : List Val), Val.dataL d v = true → Val.dataL d u = true → PyData.eqvAll (Val.pyL v) (Val.pyL u) = Val.eqvL v u
  | d, [], [], _, _ => rfl
  | d, [], _ :: _, _, _ => rfl
  | d, _ :: _, [], _, _ => rfl
  | d, x :: xs, y :: ys, h, g => by
    have h : (Val.data d x && Val.dataL d xs) = true := by
      cases d <;> exact h
    have g : (Val.data d y && Val.dataL d ys) = true := by
      cases d <;> exact g
    rw [Bool.and_eq_true] at h g
    show (PyData.eqv x.py y.py && PyData.eqvAll (Val.pyL xs) (Val.pyL ys)) = (x.eqv y && Val.eqvL xs ys)
    rw [eqv_py d x y h.1 g.1, eqvL_py d xs ys h.2 g.2]
end
theorem any_py (d : Nat) (v : Val) (hv : v.data d = true) : ∀ xs : List Val, Val.dataL d xs = true → ((Val.pyL xs).any fun y => PyData.eqv y v.py) = hasV v xs
  | [], _ => rfl
  | x :: xs, h => by
    have h : (Val.data d x && Val.dataL d xs) = true := by
      cases d <;> exact h
    rw [Bool.and_eq_true] at h
    show (PyData.eqv x.py v.py || (Val.pyL xs).any fun y => PyData.eqv y v.py) = (x.eqv v || hasV v xs)
    rw [eqv_py d x v h.1 hv, any_py d v hv xs h.2]

section
variable {K : Fg} {w : Wd} {Bs : BX} {cs : Cells} {H : Hp}
/-- a value, its list's cell read, as data -/
theorem HRel.dp (h : HRel K w Bs cs H) {v : Val} {x : V} (r : RepV K w v x) (hd : (topV cs v).data deep = true) : Dp K H x (topV cs v).py := by
  unfold topV at hd ⊢
  cases e : lstOf cs v with
  | none =>
    rw [e] at hd
    exact dp_of h.fr _ _ _ hd r
  | some xs =>
    rw [e] at hd
    obtain ⟨p, ys, rfl, hp, q⟩ := h.lst_ r e
    exact .lst (SqL.of hp) (dpl_of h.fr 59 _ _ hd q)
end

/-! ### truth -/
section
variable {X : Cx} {w : Wd} {Bs : BX} {cs : Cells} {H : Hp} {W : WX} {pins : List (Addr × Obj)} {σ : L2.St} {s : Shared}
theorem isEmpty_rep {xs : List Val} {ys : List V} (r : RepL X.K w xs ys) : (!ys.isEmpty) = !xs.isEmpty := by
  cases r <;> rfl
theorem isEmpty_repD {xs : List (Val × Val)} {ys : List (Key × V)} (r : RepD X.K w xs ys) : (!ys.isEmpty) = !xs.isEmpty := by
  cases r <;> rfl
theorem tru_dct {p : Addr} {ds : List (Key × V)} {Q : Bool → Hp → Prop} (I : Inv X pins σ H s) (h : Rd H p (.dK ds)) (q : Q (!ds.isEmpty) H) : wpAny (model X.prog X.w) X.A (PySem.truthy (.ref p)) (TP X pins σ Q) X.xe s := by
  obtain ⟨hz, hS, vs, r, m⟩ : ds.length ≤ sizeLine ∧ (p == sysModules) = false ∧ ∃ vs, KV ds vs ∧ s.heap.DictOf (mixKind X.prog X.w) p vs := h.ok I.hok
  have hlen : ds.length = vs.length := Paired.length r
  have hl := line63
  exact wpAny_truthy_dict hS m (by omega) ⟨H, I.tok _, by rw [isEmpty_kv r]; exact q⟩
theorem tru_all {v : Val} {x : V} {u : Value} {b : Bool} {Q : Bool → Hp → Prop} (I : Inv X pins σ H s) (hh : HRel X.K w Bs cs H) (r : RepV X.K w v x) (e : truthy cs v = some b) (ru : RelV x u) (q : Q b H) :
    wpAny (model X.prog X.w) X.A (PySem.truthy u) (TP X pins σ Q) X.xe s := by
  have tk : ∀ k, TruV X.K x H k → k = b → wpAny (model X.prog X.w) X.A (PySem.truthy u) (TP X pins σ Q) X.xe s := fun k h e => tru_ok pins s σ H x u Q I ru ⟨k, h, by rw [e]; exact q⟩
  have tl : ∀ xs, lstOf cs v = some xs → b = !xs.isEmpty → wpAny (model X.prog X.w) X.A (PySem.truthy u) (TP X pins σ Q) X.xe s := fun xs el eb => by
    obtain ⟨p, ys, rfl, hp, q⟩ := hh.lst_ r el
    exact tk (!ys.isEmpty) (.inl ⟨ys, SqL.of hp, rfl⟩) (by rw [eb]; exact isEmpty_rep q)
  have td : ∀ xs, dctOf cs v = some xs → b = !xs.isEmpty → wpAny (model X.prog X.w) X.A (PySem.truthy u) (TP X pins σ Q) X.xe s := fun xs el eb => by
    obtain ⟨p, ys, rfl, hp, q'⟩ := hh.dct_ r el
    cases ru
    exact tru_dct I hp (by rw [isEmpty_repD q', ← eb]; exact q)
  cases v with
  | non => cases r; cases e; exact tk _ rfl rfl
  | bl c => cases r; cases e; exact tk _ rfl rfl
  | int c => cases r; cases e; exact tk _ rfl rfl
  | str c =>
    cases r
    have e : (if sizeOk c.length = true then some (!c.isEmpty) else none) = some b := e
    by_cases hz : sizeOk c.length = true
    · rw [if_pos hz] at e
      cases e
      refine tk _ ⟨by show c.toArray.size ≤ _; rw [List.size_toArray]; exact line_of hz, rfl⟩ ?_
      show (((c.toArray.size : Nat) : Int) != 0) = !c.isEmpty
      rw [List.size_toArray]
      cases c with
      | nil => rfl
      | cons a t =>
        show ((((a :: t).length : Nat) : Int) != 0) = true
        simp only [List.length_cons, bne_iff_ne, ne_eq]
        omega
    · rw [if_neg hz] at e
      cases e
  | tup xs =>
    cases e
    obtain ⟨p, ys, rfl, hp, q⟩ := hh.tup_ r rfl
    exact tk (!ys.isEmpty) (.inr (.inl ⟨ys, hp, rfl⟩)) (isEmpty_rep q)
  | lst xs => cases e; exact tl xs rfl rfl
  | dct xs => cases e; exact td xs rfl rfl
  | ref a =>
    have e : (match cs[a]? with
      | some (.lst xs) => some (!xs.isEmpty)
      | some (.dct xs) => some (!xs.isEmpty)
      | _ => none) = some b := e
    cases ec : cs[a]? with
    | none => simp [ec] at e
    | some o =>
      cases o with
      | lst xs =>
        rw [ec] at e
        exact tl xs (by simp [lstOf, ec]) (Option.some.inj e).symm
      | dct xs =>
        rw [ec] at e
        exact td xs (by simp [dctOf, ec]) (Option.some.inj e).symm
      | ins C fs => simp [ec] at e
  | _ => cases e
end

/-! ### operators -/
section
variable {X : Cx} {w : Wd} {Bs : BX} {cs : Cells} {H : Hp} {W : WX} {pins : List (Addr × Obj)} {σ : L2.St} {s : Shared}
/-- what is wanted of a value -/
def Wants (X : Cx) (Bs : BX) (w : Wd) (cs : Cells) (Q : VK) (z : Val) : Prop := ∀ w' x' H', w.le w' → HRel X.K w' Bs cs H' → rN X.K w' H' z x' → Q x' H'
theorem Wants.here {Q : VK} {z : Val} {x : V} (q : Wants X Bs w cs Q z) (hh : HRel X.K w Bs cs H) (r : RepV X.K w z x) (h : isLD z = false) : Q x H := q w x H .rfl hh (rN_of h r)
theorem Wants.tup {Q : VK} {xs : List Val} {ys : List V} (q : Wants X Bs w cs Q (.tup xs)) (hh : HRel X.K w Bs cs H) (r : RepL X.K w xs ys) : ∀ p, H p = none → Q (.ref p) (upd H p (.tup ys)) := fun p hp => by
  obtain ⟨l, hh', r'⟩ := hh.newT hp r
  exact q _ _ _ l hh' r'
theorem Wants.lst {Q : VK} {xs : List Val} {ys : List V} (q : Wants X Bs w cs Q (.lst xs)) (hh : HRel X.K w Bs cs H) (r : RepL X.K w xs ys) : ∀ p, H p = none → Q (.ref p) (upd H p (.lst ys)) := fun p hp => by
  obtain ⟨hh', r'⟩ := hh.newL hp r
  exact q _ _ _ .rfl hh' r'
theorem repN_eq {α : Type} (xs : List α) : ∀ n, repN n xs = (List.replicate n xs).flatten
  | 0 => rfl
  | n + 1 => by
    rw [List.replicate_succ, List.flatten_cons, ← repN_eq xs n]
    rfl
theorem RepL.rep {xs : List Val} {ys : List V} (r : RepL X.K w xs ys) : ∀ n, RepL X.K w (repN n xs) (List.replicate n ys).flatten
  | 0 => .nil
  | n + 1 => by
    rw [List.replicate_succ, List.flatten_cons]
    exact r.append (RepL.rep r n)
theorem tS_app (a b : List Nat) : tS a ++ tS b = tS (a ++ b) := by
  show (⟨a.toArray ++ b.toArray⟩ : Str) = ⟨(a ++ b).toArray⟩
  rw [List.append_toArray]
theorem tS_len (a : List Nat) : (tS a).length = a.length := List.size_toArray
theorem opr_add {v u z : Val} {x y : V} {v' u' : Value} {Q : VK} (I : Inv X pins σ H s) (hh : HRel X.K w Bs cs H) (rv : RepV X.K w v x) (ru : RepV X.K w u y) (e : opAdd cs v u = some z) (q : Wants X Bs w cs Q z) (r1 : RelV x v') (r2 : RelV y u') :
    wpAny (model X.prog X.w) X.A (binaryOp .Add v' u') (EP X pins σ Q) X.xe s := by
  have hl : ∀ a b, lstOf cs v = some a → lstOf cs u = some b → (if sizeOk (a.length + b.length) then some (Val.lst (a ++ b)) else none) = some z → wpAny (model X.prog X.w) X.A (binaryOp .Add v' u') (EP X pins σ Q) X.xe s := fun a b ea eb e => by
    by_cases hz : sizeOk (a.length + b.length) = true
    · rw [if_pos hz] at e
      cases e
      obtain ⟨p1, y1, rfl, h1, q1⟩ := hh.lst_ rv ea
      obtain ⟨p2, y2, rfl, h2, q2⟩ := hh.lst_ ru eb
      exact op_cat pins s σ H _ _ v' u' Q I r1 r2 ⟨p1, p2, y1, y2, rfl, rfl, h1, h2, by rw [← q1.length, ← q2.length]; exact line_of hz, q.lst hh (q1.append q2)⟩
    · rw [if_neg hz] at e
      cases e
  have hl' : (match lstOf cs v, lstOf cs u with
    | some x, some y => if sizeOk (x.length + y.length) then some (Val.lst (x ++ y)) else none
    | _, _ => none) = some z → wpAny (model X.prog X.w) X.A (binaryOp .Add v' u') (EP X pins σ Q) X.xe s := fun e => by
    cases ea : lstOf cs v with
    | none => simp [ea] at e
    | some a =>
      cases eb : lstOf cs u with
      | none => simp [ea, eb] at e
      | some b =>
        simp only [ea, eb] at e
        exact hl a b ea eb e
  unfold opAdd at e
  split at e
  · rename_i i j
    cases e
    cases rv
    cases ru
    exact op_add pins s σ H _ _ v' u' Q I r1 r2 ⟨i, j, rfl, rfl, q.here hh (.int _) rfl⟩
  · rename_i a b
    by_cases hz : sizeOk (a.length + b.length) = true
    · rw [if_pos hz] at e
      cases e
      cases rv
      cases ru
      refine op_add_str pins s σ H _ _ v' u' Q I r1 r2 ⟨tS a, tS b, rfl, rfl, by rw [tS_len, tS_len]; exact line_of hz, ?_⟩
      rw [tS_app]
      exact q.here hh (.str _) rfl
    · rw [if_neg hz] at e
      cases e
  · rename_i a b
    by_cases hz : sizeOk (a.length + b.length) = true
    · rw [if_pos hz] at e
      cases e
      obtain ⟨p1, y1, rfl, h1, q1⟩ := hh.tup_ rv rfl
      obtain ⟨p2, y2, rfl, h2, q2⟩ := hh.tup_ ru rfl
      refine op_catA pins s σ H _ _ v' u' Q I r1 r2 ⟨p1, p2, y1, y2, rfl, rfl, h1, h2, by rw [← q1.length, ← q2.length]; exact line_of hz, fun e => ?_, fun _ e => ?_, fun _ _ => q.tup hh (q1.append q2)⟩
      · subst e
        cases q1
        exact q.here hh ru rfl
      · subst e
        cases q2
        rw [List.append_nil] at q
        exact q.here hh rv rfl
    · rw [if_neg hz] at e
      cases e
  · exact hl' e
theorem opr_mul {v u z : Val} {x y : V} {v' u' : Value} {Q : VK} (I : Inv X pins σ H s) (hh : HRel X.K w Bs cs H) (rv : RepV X.K w v x) (ru : RepV X.K w u y) (e : opMul v u = some z) (q : Wants X Bs w cs Q z) (r1 : RelV x v') (r2 : RelV y u') :
    wpAny (model X.prog X.w) X.A (binaryOp .Mult v' u') (EP X pins σ Q) X.xe s := by
  unfold opMul at e
  split at e
  · rename_i i j
    by_cases hz : bits i + bits j < 1000000
    · rw [if_pos hz] at e
      cases e
      cases rv
      cases ru
      exact op_mulW pins s σ H _ _ v' u' Q I r1 r2 ⟨i, j, rfl, rfl, hz, q.here hh (.int _) rfl⟩
    · rw [if_neg hz] at e
      cases e
  · rename_i xs k
    by_cases hz : (sizeOk (xs.length * k.toNat) && decide (k < 1000000) && decide (-1000000 < k)) = true
    · rw [if_pos hz] at e
      cases e
      rw [Bool.and_eq_true, Bool.and_eq_true] at hz
      obtain ⟨⟨h1, h2⟩, h3⟩ := hz
      have h2 := of_decide_eq_true h2
      have h3 := of_decide_eq_true h3
      cases rv with
      | lst hF r =>
        cases ru
        refine op_rep pins s σ H _ _ v' u' Q I r1 r2 ⟨_, k, _, rfl, rfl, hh.fr _ _ hF, by omega, by omega, by rw [← r.length]; exact line_of h1, ?_⟩
        exact q.lst hh (r.rep _)
    · rw [if_neg hz] at e
      cases e
  · cases e
theorem opr_bin {op : Operator} {v u z : Val} {x y : V} {v' u' : Value} {Q : VK} (I : Inv X pins σ H s) (hh : HRel X.K w Bs cs H) (rv : RepV X.K w v x) (ru : RepV X.K w u y) (e : opBin cs op v u = some z) (q : Wants X Bs w cs Q z) (r1 : RelV x v') (r2 : RelV y u') :
    wpAny (model X.prog X.w) X.A (binaryOp op v' u') (EP X pins σ Q) X.xe s := by
  unfold opBin at e
  cases op with
  | Add => exact opr_add I hh rv ru e q r1 r2
  | Mult => exact opr_mul I hh rv ru e q r1 r2
  | Sub =>
    simp only at e
    split at e
    · rename_i i j
      cases e
      cases rv
      cases ru
      exact op_sub pins s σ H _ _ v' u' Q I r1 r2 ⟨i, j, rfl, rfl, q.here hh (.int _) rfl⟩
    · cases e
  | Mod =>
    simp only at e
    split at e
    · rename_i i j
      by_cases hz : 0 < j
      · rw [if_pos hz] at e
        cases e
        cases rv
        cases ru
        exact op_mod pins s σ H _ _ v' u' Q I r1 r2 ⟨i, j, rfl, rfl, hz, q.here hh (.int _) rfl⟩
      · rw [if_neg hz] at e
        cases e
    · cases e
  | FloorDiv =>
    simp only at e
    split at e
    · rename_i i j
      by_cases hz : 0 < j ∧ bits j < 9000
      · rw [if_pos hz] at e
        cases e
        cases rv
        cases ru
        exact op_fdivW pins s σ H _ _ v' u' Q I r1 r2 ⟨i, j, rfl, rfl, hz, q.here hh (.int _) rfl⟩
      · rw [if_neg hz] at e
        cases e
    · cases e
  | Pow =>
    simp only at e
    split at e
    · rename_i i j
      by_cases hz : 0 ≤ j ∧ j ≤ 100 ∧ bits i < 10000
      · rw [if_pos hz] at e
        cases e
        cases rv
        cases ru
        obtain ⟨t, rfl⟩ := r1
        obtain ⟨t', rfl⟩ := r2
        refine pow_int hz.1 ?_ ⟨.int (i ^ j.toNat), H, I.tok _, ⟨_, rfl⟩, q.here hh (.int _) rfl⟩
        have hb : (Builtin.Int.intBits i) ≤ i.natAbs.log2 + 1 := by
          unfold Builtin.Int.intBits
          split <;> omega
        have hb2 : (Builtin.Int.intBits i : Int) ≤ 10000 := by
          have : i.natAbs.log2 < 10000 := hz.2.2
          omega
        have : (Builtin.Int.intBits i : Int) * j ≤ 10000 * 100 := Int.mul_le_mul hb2 hz.2.1 hz.1 (by omega)
        have h27 : (10000 : Int) * 100 ≤ 2 ^ 27 := by decide
        omega
      · rw [if_neg hz] at e
        cases e
    · cases e
  | _ => cases e
end
end EV
/-! SdC: dicts read, comparisons, subscripts, slices by values. -/
namespace EV
open PySem PySem.Spec PyProof.Rows L2

theorem tS_inj {a b : List Nat} (h : tS a = tS b) : a = b := by
  have := congrArg (fun s : Str => s.cps.toList) h
  simpa using this
theorem keyEq_of {x k : Val} {c d : Key} (hx : keyOf x = some c) (hk : keyOf k = some d) : x.keyEq k = decide (c = d) := by
  cases x with
  | str s =>
    cases hx
    cases k with
    | str t =>
      cases hk
      show (s == t) = _
      by_cases e : s = t
      · subst e
        simp
      · rw [beq_eq_false_iff_ne.mpr e]
        exact (decide_eq_false fun z => e (tS_inj (Sum.inr.inj z))).symm
    | int j =>
      cases hk
      exact (decide_eq_false fun z => nomatch z).symm
    | _ => cases hk
  | int i =>
    cases hx
    cases k with
    | str t =>
      cases hk
      exact (decide_eq_false fun z => nomatch z).symm
    | int j =>
      cases hk
      show (i == j) = _
      by_cases e : i = j
      · subst e
        simp
      · rw [beq_eq_false_iff_ne.mpr e]
        exact (decide_eq_false fun z => e (Sum.inl.inj z)).symm
    | _ => cases hk
  | _ => cases hx
theorem key_some {k : Val} (h : k.key = true) : ∃ c, keyOf k = some c := by
  cases k with
  | str s => exact ⟨_, rfl⟩
  | int s => exact ⟨_, rfl⟩
  | _ => cases h
theorem key_rep {K : Fg} {w : Wd} {k : Val} {c : Key} {x : V} (h : keyOf k = some c) (r : RepV K w k x) : x = kV c := by
  cases k with
  | str s =>
    cases h
    cases r
    rfl
  | int s =>
    cases h
    cases r
    rfl
  | _ => cases h
section
variable {K : Fg} {w : Wd}
theorem RepD.get {k : Val} {c : Key} (hk : keyOf k = some c) : ∀ {v : List (Val × Val)} {x : List (Key × V)}, RepD K w v x → (dGet k v = none ∧ valV x c = none) ∨ ∃ a b, dGet k v = some a ∧ valV x c = some b ∧ RepV K w a b
  | _, _, .nil => .inl ⟨rfl, rfl⟩
  | _, _, .cons (k := y) (c := d) (x := u) (y := z) (xs := r) hy h t => by
    have e := keyEq_of hy hk
    unfold dGet
    by_cases hc : d = c
    · rw [decide_eq_true hc] at e
      rw [e, valV_pos hc]
      exact .inr ⟨_, _, rfl, rfl, h⟩
    · rw [decide_eq_false hc] at e
      rw [e, valV_neg hc]
      exact RepD.get hk t
theorem RepD.append : ∀ {v u : List (Val × Val)} {x y : List (Key × V)}, RepD K w v x → RepD K w u y → RepD K w (v ++ u) (x ++ y)
  | _, _, _, _, .nil, s => s
  | _, _, _, _, .cons k h r, s => .cons k h (RepD.append r s)
theorem RepD.anyK {k : Val} {c : Key} (hk : keyOf k = some c) : ∀ {v : List (Val × Val)} {x : List (Key × V)}, RepD K w v x → (x.any fun kv => decide (kv.1 = c)) = v.any fun p => p.1.keyEq k
  | _, _, .nil => rfl
  | _, _, .cons hy h t => by
    rw [List.any_cons, List.any_cons, RepD.anyK hk t, keyEq_of hy hk]
theorem RepD.mapK {k a : Val} {c : Key} {b : V} (hk : keyOf k = some c) (q : RepV K w a b) : ∀ {v : List (Val × Val)} {x : List (Key × V)}, RepD K w v x →
    RepD K w (v.map fun p => if p.1.keyEq k = true then (p.1, a) else p) (x.map fun kv => if kv.1 = c then (kv.1, b) else kv)
  | _, _, .nil => .nil
  | _, _, .cons (k := y) (c := d) hy h t => by
    have e := keyEq_of hy hk
    rw [List.map_cons, List.map_cons]
    by_cases hc : d = c
    · rw [decide_eq_true hc] at e
      rw [if_pos e, if_pos hc]
      exact .cons hy q (RepD.mapK hk q t)
    · rw [decide_eq_false hc] at e
      rw [if_neg (by rw [e]; exact Bool.false_ne_true), if_neg hc]
      exact .cons hy h (RepD.mapK hk q t)
theorem RepD.put {k a : Val} {c : Key} {b : V} (hk : keyOf k = some c) (q : RepV K w a b) {v : List (Val × Val)} {x : List (Key × V)} (r : RepD K w v x) : RepD K w (dPut k a v) (putK x c b) := by
  unfold dPut putK
  rw [r.anyK hk]
  split
  · exact r.mapK hk q
  · exact r.append (.cons hk q .nil)
theorem RepD.del {k : Val} {c : Key} (hk : keyOf k = some c) : ∀ {v : List (Val × Val)} {x : List (Key × V)}, RepD K w v x → RepD K w (dDel k v) (dropK x c)
  | _, _, .nil => .nil
  | _, _, .cons (k := y) (c := d) hy h t => by
    have e := keyEq_of hy hk
    unfold dDel dropK
    rw [List.filter_cons, List.filter_cons]
    by_cases hc : d = c
    · rw [decide_eq_true hc] at e
      rw [if_neg (by rw [e]; exact Bool.false_ne_true), if_neg (by rw [decide_eq_false (fun z : d ≠ c => z hc)]; exact Bool.false_ne_true)]
      exact RepD.del hk t
    · rw [decide_eq_false hc] at e
      rw [if_pos (by rw [e]; rfl), if_pos (decide_eq_true hc)]
      exact .cons hy h (RepD.del hk t)
end
theorem ltS_eq : ∀ a b : List Nat, ltS a b = decide (a < b)
  | [], [] => rfl
  | [], y :: ys => (decide_eq_true (List.nil_lt_cons y ys)).symm
  | x :: xs, [] => (decide_eq_false (List.not_lt_nil (x :: xs))).symm
  | x :: xs, y :: ys => by
    unfold ltS
    by_cases h : x < y
    · rw [if_pos h]
      exact (decide_eq_true (List.cons_lt_cons_iff.mpr (.inl h))).symm
    · rw [if_neg h]
      by_cases g : y < x
      · rw [if_pos g]
        refine (decide_eq_false fun z => ?_).symm
        rcases List.cons_lt_cons_iff.mp z with z | ⟨z, _⟩ <;> omega
      · rw [if_neg g, ltS_eq xs ys]
        have e : x = y := by omega
        subst e
        by_cases q : xs < ys
        · rw [decide_eq_true q, decide_eq_true (List.cons_lt_cons_iff.mpr (.inr ⟨rfl, q⟩))]
        · rw [decide_eq_false q, decide_eq_false]
          intro z
          rcases List.cons_lt_cons_iff.mp z with z | ⟨_, z⟩
          · omega
          · exact q z

section
variable {X : Cx} {w : Wd} {Bs : BX} {cs : Cells} {H : Hp} {W : WX} {pins : List (Addr × Obj)} {σ : L2.St} {s : Shared}
theorem opr_eq {v u : Val} {x y : V} {v' u' : Value} {b : Bool} {Q : VK} (hu : X.A.units + 65 < cLine) (I : Inv X pins σ H s) (hh : HRel X.K w Bs cs H) (rv : RepV X.K w v x) (ru : RepV X.K w u y) (e : opEq cs v u = some b) (r1 : RelV x v') (r2 : RelV y u') :
    (Q (.bl b) H → wpAny (model X.prog X.w) X.A (compareOp .Eq v' u') (EP X pins σ Q) X.xe s) ∧ (Q (.bl (!b)) H → wpAny (model X.prog X.w) X.A (compareOp .NotEq v' u') (EP X pins σ Q) X.xe s) := by
  unfold opEq at e
  by_cases hz : ((topV cs v).data deep && (topV cs u).data deep) = true
  · rw [if_pos hz] at e
    cases e
    rw [Bool.and_eq_true] at hz
    have d1 := hh.dp rv hz.1
    have d2 := hh.dp ru hz.2
    have q := eqv_py _ _ _ hz.1 hz.2
    refine ⟨fun h => op_eqD (by omega) pins s σ H x y v' u' Q I r1 r2 ⟨_, _, d1, d2, shaped_of hz.1, shaped_of hz.2, by rw [q]; exact h⟩, fun h => op_neD (by omega) pins s σ H x y v' u' Q I r1 r2 ⟨_, _, d1, d2, shaped_of hz.1, shaped_of hz.2, by rw [q]; exact h⟩⟩
  · rw [if_neg hz] at e
    cases e
theorem opr_in {v u : Val} {x y : V} {v' u' : Value} {b : Bool} {Q : VK} (hu : X.A.units + 65 < cLine) (I : Inv X pins σ H s) (hh : HRel X.K w Bs cs H) (rv : RepV X.K w v x) (ru : RepV X.K w u y) (e : opIn cs v u = some b) (r1 : RelV x v') (r2 : RelV y u') :
    (Q (.bl b) H → wpAny (model X.prog X.w) X.A (compareOp .In v' u') (EP X pins σ Q) X.xe s) ∧ (Q (.bl (!b)) H → wpAny (model X.prog X.w) X.A (compareOp .NotIn v' u') (EP X pins σ Q) X.xe s) := by
  have hs : ∀ z, u = .str z → ∀ c, v = .str [c] → z.contains c = b → (Q (.bl b) H → wpAny (model X.prog X.w) X.A (compareOp .In v' u') (EP X pins σ Q) X.xe s) ∧ (Q (.bl (!b)) H → wpAny (model X.prog X.w) X.A (compareOp .NotIn v' u') (EP X pins σ Q) X.xe s) := by
    intro z ez c ec eb
    subst ez ec
    cases rv
    cases ru
    have q : decide (c ∈ (tS z).cps.toList) = b := by
      rw [← eb]
      show decide (c ∈ z) = z.contains c
      rw [List.contains_eq_mem]
    exact ⟨fun h => op_in_sign pins s σ H _ _ v' u' Q I r1 r2 ⟨c, tS z, rfl, rfl, by rw [q]; exact h⟩, fun h => op_notIn_sign pins s σ H _ _ v' u' Q I r1 r2 ⟨c, tS z, rfl, rfl, by rw [q]; exact h⟩⟩
  have hq : (match seqOf cs u with
    | some xs => if v.data deep && Val.dataL deep xs then some (hasV v xs) else none
    | none => match dctOf cs u with
      | some kvs => if v.key then some (dGet v kvs).isSome else none
      | none => none) = some b → (Q (.bl b) H → wpAny (model X.prog X.w) X.A (compareOp .In v' u') (EP X pins σ Q) X.xe s) ∧ (Q (.bl (!b)) H → wpAny (model X.prog X.w) X.A (compareOp .NotIn v' u') (EP X pins σ Q) X.xe s) := by
    intro e
    cases es : seqOf cs u with
    | some xs =>
      simp only [es] at e
      by_cases hz : (v.data deep && Val.dataL deep xs) = true
      · rw [if_pos hz] at e
        cases e
        rw [Bool.and_eq_true] at hz
        obtain ⟨p, ys, rfl, hp, hr⟩ := hh.seq_ ru es
        have d1 := dp_of hh.fr _ _ _ hz.1 rv
        have d2 := dpl_of hh.fr _ _ _ hz.2 hr
        obtain ⟨as, ra⟩ := Dp.reads I _ _ _ d1 r1
        have cl := (canLay_of _ _ hz.1).1
        have cll := (canLayL_of _ _ hz.2).1
        have rm := room_in_shaped (A := X.A) (xs := Val.pyL xs) (shaped_of hz.1) hu
        have q := any_py _ v hz.1 xs hz.2
        rcases hp with hp | hp
        · obtain ⟨bs, rb⟩ := Dp.reads I (.tuple (Val.pyL xs)) _ _ (.tup hp d2) r2
          exact ⟨fun h => SeqAt.in_tuple_reads rb ra cll cl rm ⟨.bl _, H, I, rfl, by rw [q]; exact h⟩, fun h => SeqAt.notIn_tuple_reads rb ra cll cl rm ⟨.bl _, H, I, rfl, by rw [q]; exact h⟩⟩
        · obtain ⟨bs, rb⟩ := Dp.reads I (.list (Val.pyL xs)) _ _ (.lst hp d2) r2
          exact ⟨fun h => SeqAt.in_list_reads rb ra cll cl rm ⟨.bl _, H, I, rfl, by rw [q]; exact h⟩, fun h => SeqAt.notIn_list_reads rb ra cll cl rm ⟨.bl _, H, I, rfl, by rw [q]; exact h⟩⟩
      · rw [if_neg hz] at e
        cases e
    | none =>
      simp only [es] at e
      cases ed : dctOf cs u with
      | none => simp only [ed] at e; cases e
      | some kvs =>
        simp only [ed] at e
        by_cases hk : v.key = true
        · rw [if_pos hk] at e
          cases e
          obtain ⟨c, hc⟩ := key_some hk
          obtain ⟨p, ds, rfl, hp, hr⟩ := hh.dct_ ru ed
          obtain rfl := key_rep hc rv
          cases r2
          have g : DGet H p (kV c) (valV ds c) := .inl ⟨ds, c, hp, rfl, rfl⟩
          have q : (valV ds c).isSome = (dGet v kvs).isSome := by
            rcases hr.get hc with ⟨h1, h2⟩ | ⟨a, b, h1, h2, _⟩ <;> rw [h1, h2] <;> rfl
          exact ⟨fun h => d_in (by omega) I g r1 fun s3 I3 => ⟨.bl _, H, I3, rfl, by rw [q]; exact h⟩, fun h => d_notIn (by omega) I g r1 fun s3 I3 => ⟨.bl _, H, I3, rfl, by rw [q]; exact h⟩⟩
        · rw [if_neg hk] at e
          cases e
  unfold opIn at e
  split at e
  · rename_i z
    split at e
    · rename_i c
      exact hs z rfl c rfl (Option.some.inj e)
    · cases e
  · exact hq e
theorem opr_cmp {op : CmpOp} {v u : Val} {x y : V} {v' u' : Value} {b : Bool} {Q : VK} (hu : X.A.units + 65 < cLine) (I : Inv X pins σ H s) (hh : HRel X.K w Bs cs H) (rv : RepV X.K w v x) (ru : RepV X.K w u y) (e : opCmp cs op v u = some b) (q : Q (.bl b) H) (r1 : RelV x v') (r2 : RelV y u') :
    wpAny (model X.prog X.w) X.A (compareOp op v' u') (EP X pins σ Q) X.xe s := by
  have hx : ∀ {v : Val} {x : V}, RepV X.K w v x → v ≠ .non → decide (x = .non) = false := fun r h => decide_eq_false fun z => by
    subst z
    cases r
    exact h rfl
  unfold opCmp at e
  cases op with
  | Eq => exact (opr_eq hu I hh rv ru e r1 r2).1 q
  | NotEq =>
    cases e1 : opEq cs v u with
    | none => simp [e1] at e
    | some c =>
      simp only [e1] at e
      cases e
      exact (opr_eq hu I hh rv ru e1 r1 r2).2 q
  | In => exact (opr_in hu I hh rv ru e r1 r2).1 q
  | NotIn =>
    cases e1 : opIn cs v u with
    | none => simp [e1] at e
    | some c =>
      simp only [e1] at e
      cases e
      exact (opr_in hu I hh rv ru e1 r1 r2).2 q
  | Lt =>
    simp only at e
    split at e
    · cases e
      cases rv
      cases ru
      exact op_lt pins s σ H _ _ v' u' Q I r1 r2 ⟨_, _, rfl, rfl, q⟩
    · rename_i i j
      cases e
      cases rv
      cases ru
      refine op_lt_str pins s σ H _ _ v' u' Q I r1 r2 ⟨_, _, rfl, rfl, ?_⟩
      rw [ltS_eq] at q
      exact q
    · cases e
  | LtE =>
    simp only at e
    split at e
    · cases e
      cases rv
      cases ru
      exact op_le pins s σ H _ _ v' u' Q I r1 r2 ⟨_, _, rfl, rfl, q⟩
    · cases e
  | Gt =>
    simp only at e
    split at e
    · cases e
      cases rv
      cases ru
      exact op_gt pins s σ H _ _ v' u' Q I r1 r2 ⟨_, _, rfl, rfl, q⟩
    · cases e
  | GtE =>
    simp only at e
    split at e
    · cases e
      cases rv
      cases ru
      exact op_ge pins s σ H _ _ v' u' Q I r1 r2 ⟨_, _, rfl, rfl, q⟩
    · cases e
  | Is =>
    simp only at e
    split at e <;> first
      | (cases e; cases rv; cases ru; exact op_isN pins s σ H _ _ v' u' Q I r1 r2 ⟨rfl, q⟩)
      | (cases e; cases ru; exact op_isN pins s σ H _ _ v' u' Q I r1 r2 ⟨rfl, by rw [hx rv (by intro z; cases z)]; exact q⟩)
      | cases e
  | IsNot =>
    simp only at e
    split at e <;> first
      | (cases e; cases rv; cases ru; exact op_notN pins s σ H _ _ v' u' Q I r1 r2 ⟨rfl, q⟩)
      | (cases e; cases ru; exact op_notN pins s σ H _ _ v' u' Q I r1 r2 ⟨rfl, by rw [hx rv (by intro z; cases z)]; exact q⟩)
      | cases e

/-! ### subscripts -/
theorem tail_D {value slice : Expr} {p : Addr} {i : Value} {Q : Value → Shared → Prop} (hs : subscripted slice false (.ref p) i = operate [.ref p, i] (getItem (.ref p) i)) (hT : s.TypeIs (.ref p) "dict") (h : wpAny (model X.prog X.w) X.A (getItem (.ref p) i) Q X.xe s) :
    wpAny (model X.prog X.w) X.A (subscriptTail value slice (.ref p) i) Q X.xe s := by
  unfold subscriptTail
  refine wpAny_bind ?_
  rw [getitemInPython_of_ne hT.not_modules]
  have fin : wpAny (model X.prog X.w) X.A (subscripted slice false (.ref p) i) (fun r s₃ => wpAny (model X.prog X.w) X.A (letTemporaryGo value (.ref p) r >>= fun _ => pure r) Q X.xe s₃) X.xe s := by
    rw [hs]
    exact wpAny_operating (wpAny_mono h (fun r s₃ k => wpAny_bind (wpAny_letTemporaryGo (wpAny_pure k))) fun _ _ z => z)
  refine wpAny_bind (wpAny_specialOf hT PySem.F.slot_dict_getitem.lookup ?_)
  first
    | exact wpAny_pure (wpAny_bind fin)
    | exact wpAny_bind (wpAny_pure (wpAny_bind fin))
    | exact wpAny_bind fin
theorem atOf_eq {α : Type} (xs : List α) (i : Int) : atOf xs i = atI xs i := rfl
theorem opr_idx {value slice : Expr} {v u z : Val} {x y : V} {v' u' : Value} {Q : VK} (hu : X.A.units + 65 < cLine) (I : Inv X pins σ H s) (hh : HRel X.K w Bs cs H) (rv : RepV X.K w v x) (ru : RepV X.K w u y) (e : opIdx cs v u = some z) (q : ∀ b, RepV X.K w z b → Q b H) (r1 : RelV x v') (r2 : RelV y u')
    (hs : subscripted slice false v' u' = operate [v', u'] (getItem v' u')) : wpAny (model X.prog X.w) X.A (subscriptTail value slice v' u') (EP X pins σ Q) X.xe s := by
  unfold opIdx at e
  cases ed : dctOf cs v with
  | some kvs =>
    simp only [ed] at e
    by_cases hk : u.key = true
    · rw [if_pos hk] at e
      obtain ⟨c, hc⟩ := key_some hk
      obtain ⟨p, ds, rfl, hp, hr⟩ := hh.dct_ rv ed
      obtain rfl := key_rep hc ru
      cases r1
      rcases hr.get hc with ⟨h1, _⟩ | ⟨a, b, h1, h2, h3⟩
      · rw [h1] at e
        cases e
      · rw [h1] at e
        cases e
        have g : DGet H p (kV c) (some b) := .inl ⟨ds, c, hp, rfl, h2.symm⟩
        exact tail_D hs (dict_typeIs I g) (d_getItem (by omega) I g r2 fun w' s' I' rw' => ⟨b, H, I', rw', q b h3⟩)
    · rw [if_neg hk] at e
      cases e
  | none =>
    simp only [ed] at e
    split at e
    · rename_i k
      cases ru
      split at e
      · rename_i st
        by_cases hz : sizeOk st.length = true
        · rw [if_pos hz] at e
          cases rv
          cases ea : atOf st k with
          | none => rw [ea] at e; cases e
          | some c =>
            rw [ea] at e
            cases e
            exact ix_str value slice pins s σ H _ _ v' u' Q I r1 r2 ⟨tS st, k, c, rfl, rfl, by rw [tS_len]; exact line_of hz, ea, q _ (.str [c])⟩ hs
        · rw [if_neg hz] at e
          cases e
      · rename_i xs
        cases rv with
        | scr hq =>
          cases ea : atOf xs k with
          | none => rw [ea] at e; cases e
          | some c =>
            rw [ea] at e
            cases e
            refine ix_list value slice pins s σ H _ _ v' u' Q I r1 r2 ⟨_, _, k, .int c, rfl, rfl, sqL_mono hh.fr hq, ?_, q _ (.int c)⟩ hs
            show (ixN (xs.map V.int).length k).bind _ = _
            have ea : (ixN xs.length k).bind (fun j => xs[j]?) = some c := ea
            rw [List.length_map]
            cases en : ixN xs.length k with
            | none => rw [en] at ea; cases ea
            | some j =>
              rw [en] at ea
              have ea : xs[j]? = some c := ea
              show (xs.map V.int)[j]? = some (.int c)
              rw [List.getElem?_map, ea]
              rfl
      · cases es : seqOf cs v with
        | none => simp only [es] at e; cases e
        | some xs =>
          simp only [es] at e
          obtain ⟨p, ys, rfl, hp, hr⟩ := hh.seq_ rv es
          have e : (ixN xs.length k).bind (fun j => xs[j]?) = some z := e
          cases en : ixN xs.length k with
          | none => rw [en] at e; cases e
          | some j =>
            rw [en] at e
            have e : xs[j]? = some z := e
            obtain ⟨b, h1, h2⟩ := hr.get e
            have ea : atI ys k = some b := by
              show (ixN ys.length k).bind (fun j => ys[j]?) = some b
              rw [← hr.length, en]
              exact h1
            rcases hp with hp | hp
            · exact ix_tup value slice pins s σ H _ _ v' u' Q I r1 r2 ⟨p, ys, k, b, rfl, rfl, hp, ea, q b h2⟩ hs
            · exact ix_list value slice pins s σ H _ _ v' u' Q I r1 r2 ⟨p, ys, k, b, rfl, rfl, hp, ea, q b h2⟩ hs
    · cases e
theorem cutAt_eq (n d : Nat) (o : Option Int) : HT.sIx n d o = cutAt n d o := by
  cases o with
  | none => rfl
  | some i =>
    show (if i < 0 then (i + (n : Int)).toNat else min i.toNat n) = if 0 ≤ i then min i.toNat n else (i + (n : Int)).toNat
    by_cases h : 0 ≤ i
    · rw [if_pos h, if_neg (by omega)]
    · rw [if_neg h, if_pos (by omega)]
theorem RepL.cut {xs : List Val} {ys : List V} (r : RepL X.K w xs ys) (lo hi : Option Int) : RepL X.K w (cutOf xs lo hi) (cutV ys lo hi) := by
  unfold cutOf cutV
  rw [cutAt_eq, cutAt_eq, r.length]
  exact (r.drop _).take _
end
/-- a slice of ours -/
def rSl (X : Cx) (Bs : BX) : V → Option Int → Option Int → Hp → VK → Prop := fun x lo hi H Q => ∃ w cs v z, HRel X.K w Bs cs H ∧ RepV X.K w v x ∧ opSlc cs v lo hi = some z ∧ Wants X Bs w cs Q z
theorem sl_any {X : Cx} {Bs : BX} : SlR X (rSl X Bs) := by
  intro pins s σ H x v' vl vu lo hi sl Q I rx hsl pl pu ⟨w, cs, v, z, hh, rv, e, q⟩
  have hl : ∀ xs, lstOf cs v = some xs → Val.lst (cutOf xs lo hi) = z → rSlL X.K x lo hi H Q := fun xs el ez => by
    subst ez
    obtain ⟨p, ys, rfl, hp, hr⟩ := hh.lst_ rv el
    exact ⟨p, ys, rfl, SqL.of hp, q.lst hh (hr.cut lo hi)⟩
  have hl' : (lstOf cs v).map (fun xs => Val.lst (cutOf xs lo hi)) = some z → rSlL X.K x lo hi H Q := fun e => by
    cases el : lstOf cs v with
    | none => simp [el] at e
    | some xs =>
      simp only [el] at e
      exact hl xs el (Option.some.inj e)
  unfold opSlc at e
  split at e
  · rename_i st
    by_cases hz : sizeOk st.length = true
    · rw [if_pos hz] at e
      cases e
      cases rv
      refine sl_str pins s σ H _ v' vl vu lo hi sl Q I rx hsl pl pu ⟨tS st, rfl, by rw [tS_len]; exact line_of hz, ?_⟩
      have : cutS (tS st) lo hi = tS (cutOf st lo hi) := by
        unfold cutS cutOf
        rw [cutAt_eq, cutAt_eq, tS_len]
      rw [this]
      exact q.here hh (.str _) rfl
    · rw [if_neg hz] at e
      cases e
  · rename_i xs
    cases e
    obtain ⟨p, ys, rfl, hp, hr⟩ := hh.tup_ rv rfl
    refine sl_tupA pins s σ H _ v' vl vu lo hi sl Q I rx hsl pl pu ⟨p, ys, rfl, hp, fun hw => ?_, fun _ => q.tup hh (hr.cut lo hi)⟩
    have : cutOf xs lo hi = xs := by
      unfold cutOf
      rw [← cutAt_eq, ← cutAt_eq, hr.length, hw.1, hw.2, ← hr.length]
      simp
    rw [this] at q
    exact q.here hh rv rfl
  · exact sl_list pins s σ H _ v' vl vu lo hi sl Q I rx hsl pl pu (hl' e)
end EV
/-! SdD: operators, tests, comparisons, subscripts as expressions. -/
namespace EV
open PySem PySem.Spec PyProof.Rows L2

section
variable {X : Cx} {Bs : BX} {W : WX} {G : Gl} {cl : CallF} {base : Nat} {pos : Pos} {a b c : Expr} {ca cb cc : E}

theorem sd_bin {op : Operator} (ha : PE X a (TV X Bs W (evE G cl base ca))) (hb : PE X b (TV X Bs W (evE G cl base cb))) : PE X (.BinOp a op b pos) (TN X Bs W (evE G cl base (.bin op ca cb))) := by
  have ho : OpR X (binaryOp op) (fun x y H Q => ∃ w cs v u z, HRel X.K w Bs cs H ∧ RepV X.K w v x ∧ RepV X.K w u y ∧ opBin cs op v u = some z ∧ Wants X Bs w cs Q z) := by
    intro pins s σ H x y v' u' Q I r1 r2 ⟨w, cs, v, u, z, hh, rv, ru, e, q⟩
    exact opr_bin I hh rv ru e q r1 r2
  refine PE.imp (pe_op ho ha hb) fun σ H Q h => T.bind (g := fun s v cs => (evE G cl base cb s cs).bind fun u cs => R.of (opBin cs op v u) cs) h fun w s v x cs H1 hs hh r run =>
    T.next hs hh run fun w1 u y cs1 H2 l hh2 r2 run2 => ?_
  obtain ⟨z, ez, run2⟩ := run2.some_
  exact ⟨w1, cs1, v, u, z, hh2, r.mono l, r2, ez, fun w' x' H' l' h' r' => run2 w' x' H' l' h' r'⟩
theorem sd_neg (ha : PE X a (TV X Bs W (evE G cl base ca))) : PE X (.UnaryOp .USub a pos) (TV X Bs W (evE G cl base (.neg ca))) := by
  refine PE.imp (pe_un un_neg ha) fun σ H Q h => T.bind (g := fun s v cs => R.of ((asInt v).map fun i => Val.int (-i)) cs) h fun w s v x cs H1 hs hh r run => ?_
  obtain ⟨z, ez, run⟩ := run.some_
  cases v with
  | int i =>
    cases ez
    cases r
    exact ⟨i, rfl, run.done hh (.int _)⟩
  | _ => cases ez

/-! ### tests -/
def Tr1 (X : Cx) (Bs : BX) (x : V) (H : Hp) (k : Bool → Hp → Prop) : Prop := ∃ w cs v b, HRel X.K w Bs cs H ∧ RepV X.K w v x ∧ truthy cs v = some b ∧ k b H
theorem tr1 {pins : List (Addr × Obj)} {σ : L2.St} {H : Hp} {s : Shared} {x : V} {u : Value} {k : Bool → Hp → Prop} (I : Inv X pins σ H s) (r : RelV x u) (h : Tr1 X Bs x H k) : wpAny (model X.prog X.w) X.A (PySem.truthy u) (TP X pins σ k) X.xe s := by
  obtain ⟨w, cs, v, b, hh, rv, e, q⟩ := h
  exact tru_all I hh rv e r q
def tst (f : LSt → Cells → R Val) : LSt → Cells → R Bool := fun s cs => (f s cs).bind fun v cs => R.of (truthy cs v) cs
abbrev TB (X : Cx) (Bs : BX) (W : WX) (f : LSt → Cells → R Val) : TT := T X.K Bs rB W (tst f)
theorem Tr1.of {w : Wd} {σ : L2.St} {H : Hp} {cs : Cells} {v : Val} {x : V} {k : Bool → Hp → Prop} (hh : HRel X.K w Bs cs H) (r : RepV X.K w v x) (run : Run X.K Bs rB W σ w k (R.of (truthy cs v) cs)) : Tr1 X Bs x H k := by
  obtain ⟨b, e, run⟩ := run.some_
  exact ⟨w, cs, v, b, hh, r, e, run.done hh rfl⟩
theorem sd_test (ha : PE X a (TV X Bs W (evE G cl base ca))) (he : ∀ whole, isTrue a X.env whole = (do let v ← whole; standAt a.pos; holding [v] (PySem.truthy v))) : PT X a (TB X Bs W (evE G cl base ca)) := by
  refine ⟨fun pins s σ H Q I h => ?_⟩
  refine isTrue_plain (thn (ha.run pins s σ H (fun x H1 => Tr1 X Bs x H1 Q) I ?_) fun v s1 ⟨x, H1, I1, r1, q1⟩ => tr1 I1 r1 q1) (he _)
  exact T.bind (g := fun _ v cs => R.of (truthy cs v) cs) h fun w s v x cs H1 hs hh r run => .of hh r run
theorem sd_not (ha : PE X a (TV X Bs W (evE G cl base ca))) : PE X (.UnaryOp .Not a pos) (TV X Bs W (evE G cl base (.not ca))) := by
  refine ⟨fun pins s σ H Q I h => ?_⟩
  refine UnaryOp_ (thn (ha.run pins s σ H (fun x H1 => Tr1 X Bs x H1 fun b H2 => Q (.bl (!b)) H2) I ?_) fun v s1 ⟨x, H1, I1, r1, q1⟩ => not_of (thn (tr1 I1 r1 q1) fun b s2 ⟨H2, I2, q2⟩ => ⟨.bl (!b), H2, I2, rfl, q2⟩))
  refine T.bind (g := fun _ v cs => R.of ((truthy cs v).map fun b => Val.bl (!b)) cs) h fun w s v x cs H1 hs hh r run => ?_
  cases e : truthy cs v with
  | none => rw [e] at run; exact run.elim
  | some b =>
    rw [e] at run
    exact ⟨w, cs, v, b, hh, r, e, Run.done (a := Val.bl (!b)) run hh (.bl _)⟩
/-- 'and', 'or': what stands behind the first -/
theorem sd_and {b : Expr} {rest : List Expr} (ha : PE X a (TV X Bs W (evE G cl base ca))) (hb : PE X (.BoolOp .And (b :: rest) pos) (TV X Bs W (evE G cl base cb))) : PE X (.BoolOp .And (a :: b :: rest) pos) (TV X Bs W (evE G cl base (.and ca cb))) := by
  refine ⟨fun pins s σ H Q I h => ?_⟩
  refine BoolOp_and (thn (ha.run pins s σ H (fun x H1 => Tr1 X Bs x H1 fun b H2 => H2 = H1 ∧ if b = true then TV X Bs W (evE G cl base cb) σ H1 Q else Q x H1) I ?_) fun v s1 ⟨x, H1, I1, r1, q1⟩ => ?_)
  · refine T.bind (g := fun s v cs => match truthy cs v with
      | some true => evE G cl base cb s cs
      | some false => .ok v cs
      | none => .bad) h fun w s v x cs H1 hs hh r run => ?_
    cases e : truthy cs v with
    | none => simp only [e] at run; exact run.elim
    | some d =>
      cases d with
      | true =>
        simp only [e] at run
        exact ⟨w, cs, v, true, hh, r, e, rfl, T.last hs hh run⟩
      | false =>
        simp only [e] at run
        exact ⟨w, cs, v, false, hh, r, e, rfl, run.done hh r⟩
  · refine thn (tr1 I1 r1 q1) fun d s2 ⟨H2, I2, e2, q2⟩ => ?_
    subst e2
    cases d with
    | true => exact hb.run pins s2 σ H2 Q I2 q2
    | false => exact ⟨x, H2, I2, r1, q2⟩
theorem sd_or {b : Expr} {rest : List Expr} (ha : PE X a (TV X Bs W (evE G cl base ca))) (hb : PE X (.BoolOp .Or (b :: rest) pos) (TV X Bs W (evE G cl base cb))) : PE X (.BoolOp .Or (a :: b :: rest) pos) (TV X Bs W (evE G cl base (.or ca cb))) := by
  refine ⟨fun pins s σ H Q I h => ?_⟩
  refine BoolOp_or (thn (ha.run pins s σ H (fun x H1 => Tr1 X Bs x H1 fun b H2 => H2 = H1 ∧ if b = true then Q x H1 else TV X Bs W (evE G cl base cb) σ H1 Q) I ?_) fun v s1 ⟨x, H1, I1, r1, q1⟩ => ?_)
  · refine T.bind (g := fun s v cs => match truthy cs v with
      | some true => .ok v cs
      | some false => evE G cl base cb s cs
      | none => .bad) h fun w s v x cs H1 hs hh r run => ?_
    cases e : truthy cs v with
    | none => simp only [e] at run; exact run.elim
    | some d =>
      cases d with
      | false =>
        simp only [e] at run
        exact ⟨w, cs, v, false, hh, r, e, rfl, T.last hs hh run⟩
      | true =>
        simp only [e] at run
        exact ⟨w, cs, v, true, hh, r, e, rfl, run.done hh r⟩
  · refine thn (tr1 I1 r1 q1) fun d s2 ⟨H2, I2, e2, q2⟩ => ?_
    subst e2
    cases d with
    | false => exact hb.run pins s2 σ H2 Q I2 q2
    | true => exact ⟨x, H2, I2, r1, q2⟩
theorem sd_ite (hc : PT X c (TB X Bs W (evE G cl base cc))) (ha : PE X a (TV X Bs W (evE G cl base ca))) (hb : PE X b (TV X Bs W (evE G cl base cb))) : PE X (.IfExp c a b pos) (TV X Bs W (evE G cl base (.ite cc ca cb))) := by
  refine PE.imp (pe_ifExp hc ha hb) fun σ H Q h => ?_
  obtain ⟨w, s, cs, hs, hh, hr⟩ := h
  refine T.next (Rp1 := rB) (f := tst (evE G cl base cc)) (g := fun d cs => match d with
    | true => evE G cl base ca s cs
    | false => evE G cl base cb s cs) hs hh (Eq.mp (congrArg _ ?_) hr) fun w1 d d' cs1 H1 l hh1 rd run => ?_
  · show (evE G cl base cc s cs).bind _ = ((evE G cl base cc s cs).bind _).bind _
    cases evE G cl base cc s cs with
    | ok v cs1 =>
      show (match truthy cs1 v with
        | some true => evE G cl base ca s cs1
        | some false => evE G cl base cb s cs1
        | none => .bad) = (R.of (truthy cs1 v) cs1).bind _
      cases truthy cs1 v with
      | none => rfl
      | some d => cases d <;> rfl
    | exc x cs1 => rfl
    | bad => rfl
  · obtain rfl : d = d' := rd
    cases d with
    | true => exact T.last (hs.mono l) hh1 run
    | false => exact T.last (hs.mono l) hh1 run

/-! ### tests of tests -/
theorem sd_tnot (ha : PT X a (TB X Bs W (evE G cl base ca))) : PT X (.UnaryOp .Not a pos) (TB X Bs W (evE G cl base (.not ca))) := by
  refine PT.imp (pt_not ha) fun σ H Q h => ?_
  obtain ⟨w, s, cs, hs, hh, hr⟩ := h
  refine T.next (Rp1 := rB) (f := tst (evE G cl base ca)) (g := fun d cs => .ok (!d) cs) hs hh (Eq.mp (congrArg _ ?_) hr) fun w1 d d' cs1 H1 l hh1 rd run => ?_
  · show ((evE G cl base ca s cs).bind _).bind _ = ((evE G cl base ca s cs).bind _).bind _
    cases evE G cl base ca s cs with
    | ok v cs1 =>
      show (R.of ((truthy cs1 v).map fun b => Val.bl (!b)) cs1).bind _ = (R.of (truthy cs1 v) cs1).bind _
      cases truthy cs1 v with
      | none => rfl
      | some d => rfl
    | exc x cs1 => rfl
    | bad => rfl
  · obtain rfl : d = d' := rd
    exact run.done hh1 rfl
theorem tst_and {s : LSt} {cs : Cells} : tst (evE G cl base (.and ca cb)) s cs = (tst (evE G cl base ca) s cs).bind fun d cs => match d with
    | true => tst (evE G cl base cb) s cs
    | false => .ok false cs := by
  show ((evE G cl base ca s cs).bind _).bind _ = ((evE G cl base ca s cs).bind _).bind _
  cases evE G cl base ca s cs with
  | ok v cs1 =>
    show (match truthy cs1 v with
      | some true => evE G cl base cb s cs1
      | some false => .ok v cs1
      | none => .bad : R Val).bind _ = (R.of (truthy cs1 v) cs1).bind _
    cases e : truthy cs1 v with
    | none => rfl
    | some d =>
      cases d with
      | true => rfl
      | false =>
        show R.of (truthy cs1 v) cs1 = R.ok false cs1
        rw [e]
        rfl
  | exc x cs1 => rfl
  | bad => rfl
theorem tst_or {s : LSt} {cs : Cells} : tst (evE G cl base (.or ca cb)) s cs = (tst (evE G cl base ca) s cs).bind fun d cs => match d with
    | true => .ok true cs
    | false => tst (evE G cl base cb) s cs := by
  show ((evE G cl base ca s cs).bind _).bind _ = ((evE G cl base ca s cs).bind _).bind _
  cases evE G cl base ca s cs with
  | ok v cs1 =>
    show (match truthy cs1 v with
      | some true => .ok v cs1
      | some false => evE G cl base cb s cs1
      | none => .bad : R Val).bind _ = (R.of (truthy cs1 v) cs1).bind _
    cases e : truthy cs1 v with
    | none => rfl
    | some d =>
      cases d with
      | false => rfl
      | true =>
        show R.of (truthy cs1 v) cs1 = R.ok true cs1
        rw [e]
        rfl
  | exc x cs1 => rfl
  | bad => rfl
theorem sd_tand1 (ha : PT X a (TB X Bs W (evE G cl base ca))) : PW X (.BoolOp .And [a] pos) (TB X Bs W (evE G cl base ca)) := pw_and1 ha
theorem sd_tor1 (ha : PT X a (TB X Bs W (evE G cl base ca))) : PW X (.BoolOp .Or [a] pos) (TB X Bs W (evE G cl base ca)) := pw_or1 ha
theorem PW.imp {X : Cx} {e : Expr} {t t' : TT} (h : PW X e t) (k : ∀ σ H Q, t' σ H Q → t σ H Q) : PW X e t' := ⟨fun wh pins s σ H Q I q => h.run wh pins s σ H Q I (k σ H Q q)⟩
theorem sd_tand {b : Expr} {rest : List Expr} (ha : PT X a (TB X Bs W (evE G cl base ca))) (hb : PW X (.BoolOp .And (b :: rest) pos) (TB X Bs W (evE G cl base cb))) : PW X (.BoolOp .And (a :: b :: rest) pos) (TB X Bs W (evE G cl base (.and ca cb))) := by
  refine PW.imp (pw_and ha hb) fun σ H Q h => ?_
  obtain ⟨w, s, cs, hs, hh, hr⟩ := h
  rw [tst_and] at hr
  refine T.next (Rp1 := rB) (f := tst (evE G cl base ca)) hs hh hr fun w1 d d' cs1 H1 l hh1 rd run => ?_
  obtain rfl : d = d' := rd
  cases d with
  | true => exact T.last (hs.mono l) hh1 run
  | false => exact run.done hh1 rfl
theorem sd_tor {b : Expr} {rest : List Expr} (ha : PT X a (TB X Bs W (evE G cl base ca))) (hb : PW X (.BoolOp .Or (b :: rest) pos) (TB X Bs W (evE G cl base cb))) : PW X (.BoolOp .Or (a :: b :: rest) pos) (TB X Bs W (evE G cl base (.or ca cb))) := by
  refine PW.imp (pw_or ha hb) fun σ H Q h => ?_
  obtain ⟨w, s, cs, hs, hh, hr⟩ := h
  rw [tst_or] at hr
  refine T.next (Rp1 := rB) (f := tst (evE G cl base ca)) hs hh hr fun w1 d d' cs1 H1 l hh1 rd run => ?_
  obtain rfl : d = d' := rd
  cases d with
  | false => exact T.last (hs.mono l) hh1 run
  | true => exact run.done hh1 rfl

/-! ### comparisons -/
def NoSp (G : Gl) : Prop := ∀ C c, G.clss.lookup C = some c → c.meths.lookup ("__eq__" : Str) = none ∧ c.meths.lookup ("__len__" : Str) = none
def isIn : CmpOp → Bool
  | .In => true
  | .NotIn => true
  | _ => false
theorem spc_bad {v : Val} {m : Str} {vs : List Val} {cs : Cells} (h : ∀ C c, G.clss.lookup C = some c → c.meths.lookup m = none) : spcV G cl base v m vs cs = .bad := by
  unfold spcV
  cases insOf cs v with
  | none => rfl
  | some p =>
    show (match G.clss.lookup p.1 with
      | some c => _
      | none => _) = _
    cases e : G.clss.lookup p.1 with
    | none => rfl
    | some c =>
      show (match c.meths.lookup m with
        | some f => _
        | none => _) = _
      rw [h _ _ e]
theorem cmpV_of {op : CmpOp} {v u : Val} {cs : Cells} (ho : isIn op = false) (hn : NoSp G) : cmpV G cl base op v u cs = .bad ∨ cmpV G cl base op v u cs = R.of ((opCmp cs op v u).map .bl) cs := by
  unfold cmpV
  cases op with
  | In => cases ho
  | NotIn => cases ho
  | Eq =>
    simp only
    cases insOf cs v with
    | none => exact .inr rfl
    | some p =>
      simp only
      rw [spc_bad fun C c h => (hn C c h).1]
      exact .inl rfl
  | _ => exact .inr rfl
def rCm (X : Cx) (Bs : BX) (op : CmpOp) : R2 := fun x y H Q => ∃ w cs v u d, HRel X.K w Bs cs H ∧ RepV X.K w v x ∧ RepV X.K w u y ∧ opCmp cs op v u = some d ∧ Q (.bl d) H
theorem or_cm {op : CmpOp} (hu : X.A.units + 65 < cLine) : OpR X (compareOp op) (rCm X Bs op) := by
  intro pins s σ H x y v' u' Q I r1 r2 ⟨w, cs, v, u, d, hh, rv, ru, e, q⟩
  exact opr_cmp hu I hh rv ru e q r1 r2
theorem sd_cmp {op : CmpOp} (ho : isIn op = false) (hn : NoSp G) (hu : X.A.units + 65 < cLine) (ha : PE X a (TV X Bs W (evE G cl base ca))) (hb : PE X b (TV X Bs W (evE G cl base cb))) (hm : behindInMarks op b = false) :
    PE X (.Compare a [op] [b] pos) (TV X Bs W (evE G cl base (.cmp op ca cb))) ∧ PT X (.Compare a [op] [b] pos) (TB X Bs W (evE G cl base (.cmp op ca cb))) := by
  constructor
  · refine PE.imp (pe_cmpR (or_cm (Bs := Bs) hu) ha hb hm) fun σ H Q h => T.bind (g := fun s v cs => (evE G cl base cb s cs).bind fun u cs => cmpV G cl base op v u cs) h fun w s v x cs H1 hs hh r run =>
      T.next hs hh run fun w1 u y cs1 H2 l hh2 r2 run2 => ?_
    rcases cmpV_of (cl := cl) (base := base) (op := op) (v := v) (u := u) (cs := cs1) ho hn with e | e
    · rw [e] at run2
      exact run2.elim
    · rw [e] at run2
      cases eo : opCmp cs1 op v u with
      | none => rw [eo] at run2; exact run2.elim
      | some d =>
        rw [eo] at run2
        exact ⟨w1, cs1, v, u, d, hh2, r.mono l, r2, eo, Run.done (a := Val.bl d) run2 hh2 (.bl _)⟩
  · refine PT.imp (pt_cmpR (or_cm (Bs := Bs) hu) ha hb hm) fun σ H Q h => ?_
    obtain ⟨w, s, cs, hs, hh, hr⟩ := h
    refine T.next (Rp1 := rV X.K) (f := evE G cl base ca) (g := fun v cs => (evE G cl base cb s cs).bind fun u cs => (cmpV G cl base op v u cs).bind fun v cs => R.of (truthy cs v) cs) hs hh (Eq.mp (congrArg _ ?_) hr) fun w1 v x cs1 H1 l hh1 rv run => ?_
    · show ((evE G cl base ca s cs).bind _).bind _ = (evE G cl base ca s cs).bind _
      cases evE G cl base ca s cs with
      | ok v cs1 =>
        show ((evE G cl base cb s cs1).bind _).bind _ = (evE G cl base cb s cs1).bind _
        cases evE G cl base cb s cs1 <;> rfl
      | exc x cs1 => rfl
      | bad => rfl
    · refine T.next (hs.mono l) hh1 run fun w2 u y cs2 H2 l2 hh2 ru run2 => ?_
      rcases cmpV_of (cl := cl) (base := base) (op := op) (v := v) (u := u) (cs := cs2) ho hn with e | e
      · rw [e] at run2
        exact run2.elim
      · rw [e] at run2
        cases eo : opCmp cs2 op v u with
        | none => rw [eo] at run2; exact run2.elim
        | some d =>
          rw [eo] at run2
          exact ⟨w2, cs2, v, u, d, hh2, rv.mono l2, ru, eo, d, rfl, Run.done (a := d) run2 hh2 rfl⟩
theorem sd_chn {o1 o2 : CmpOp} (hu : X.A.units + 65 < cLine) (ha : PE X a (TV X Bs W (evE G cl base ca))) (hb : PE X b (TV X Bs W (evE G cl base cb))) (hc : PE X c (TV X Bs W (evE G cl base cc))) (hm : lastMarks [o1, o2] [b, c] = false) :
    PE X (.Compare a [o1, o2] [b, c] pos) (TV X Bs W (evE G cl base (.chn o1 o2 ca cb cc))) ∧ PT X (.Compare a [o1, o2] [b, c] pos) (TB X Bs W (evE G cl base (.chn o1 o2 ca cb cc))) := by
  constructor
  · refine PE.imp (pe_chain (or_cm (Bs := Bs) hu) (or_cm (Bs := Bs) hu) ha hb hc hm) fun σ H Q h => T.bind (g := fun s v cs => (evE G cl base cb s cs).bind fun u cs => match opCmp cs o1 v u with
      | some true => (evE G cl base cc s cs).bind fun w cs => R.of ((opCmp cs o2 u w).map Val.bl) cs
      | some false => R.ok (Val.bl false) cs
      | none => R.bad) h fun w s v x cs H1 hs hh r run => T.next hs hh run fun w1 u y cs1 H2 l hh2 r2 run2 => ?_
    cases eo : opCmp cs1 o1 v u with
    | none => simp only [eo] at run2; exact run2.elim
    | some d =>
      refine ⟨w1, cs1, v, u, d, hh2, r.mono l, r2, eo, d, rfl, ?_⟩
      cases d with
      | false =>
        simp only [eo] at run2
        exact Run.done (a := Val.bl false) run2 hh2 (.bl _)
      | true =>
        simp only [eo] at run2
        refine T.next (hs.mono l) hh2 run2 fun w2 z y2 cs2 H3 l2 hh3 r3 run3 => ?_
        cases e2 : opCmp cs2 o2 u z with
        | none => rw [e2] at run3; exact run3.elim
        | some d =>
          rw [e2] at run3
          exact ⟨w2, cs2, u, z, d, hh3, r2.mono l2, r3, e2, Run.done (a := Val.bl d) run3 hh3 (.bl _)⟩
  · refine PT.imp (pt_chain (or_cm (Bs := Bs) hu) (or_cm (Bs := Bs) hu) ha hb hc hm) fun σ H Q h => ?_
    obtain ⟨w, s, cs, hs, hh, hr⟩ := h
    refine T.next (Rp1 := rV X.K) (f := evE G cl base ca) (g := fun v cs => (evE G cl base cb s cs).bind fun u cs => match opCmp cs o1 v u with
      | some true => (evE G cl base cc s cs).bind fun w cs => R.of (opCmp cs o2 u w) cs
      | some false => .ok false cs
      | none => .bad) hs hh (Eq.mp (congrArg _ ?_) hr) fun w1 v x cs1 H1 l hh1 rv run => ?_
    · show ((evE G cl base ca s cs).bind _).bind _ = (evE G cl base ca s cs).bind _
      cases evE G cl base ca s cs with
      | ok v cs1 =>
        show ((evE G cl base cb s cs1).bind _).bind _ = (evE G cl base cb s cs1).bind _
        cases evE G cl base cb s cs1 with
        | ok u cs2 =>
          show (match opCmp cs2 o1 v u with
            | some true => (evE G cl base cc s cs2).bind fun w cs => R.of ((opCmp cs o2 u w).map .bl) cs
            | some false => .ok (.bl false) cs2
            | none => .bad : R Val).bind _ = (match opCmp cs2 o1 v u with
              | some true => (evE G cl base cc s cs2).bind fun w cs => R.of (opCmp cs o2 u w) cs
              | some false => .ok false cs2
              | none => .bad)
          cases opCmp cs2 o1 v u with
          | none => rfl
          | some d =>
            cases d with
            | false => rfl
            | true =>
              show ((evE G cl base cc s cs2).bind _).bind _ = (evE G cl base cc s cs2).bind _
              cases evE G cl base cc s cs2 with
              | ok z cs3 =>
                show (R.of ((opCmp cs3 o2 u z).map Val.bl) cs3).bind _ = R.of (opCmp cs3 o2 u z) cs3
                cases opCmp cs3 o2 u z <;> rfl
              | exc x cs1 => rfl
              | bad => rfl
        | exc x cs1 => rfl
        | bad => rfl
      | exc x cs1 => rfl
      | bad => rfl
    · refine T.next (hs.mono l) hh1 run fun w2 u y cs2 H2 l2 hh2 ru run2 => ?_
      cases eo : opCmp cs2 o1 v u with
      | none => simp only [eo] at run2; exact run2.elim
      | some d =>
        refine ⟨w2, cs2, v, u, d, hh2, rv.mono l2, ru, eo, d, rfl, ?_⟩
        cases d with
        | false =>
          simp only [eo] at run2
          exact ⟨false, rfl, Run.done (a := false) run2 hh2 rfl⟩
        | true =>
          simp only [eo] at run2
          refine T.next ((hs.mono l).mono l2) hh2 run2 fun w3 z y2 cs3 H3 l3 hh3 r3 run3 => ?_
          cases e2 : opCmp cs3 o2 u z with
          | none => rw [e2] at run3; exact run3.elim
          | some d =>
            rw [e2] at run3
            exact ⟨w3, cs3, u, z, d, hh3, ru.mono l3, r3, e2, d, rfl, Run.done (a := d) run3 hh3 rfl⟩

/-! ### subscripts, slices -/
theorem sd_idx (hu : X.A.units + 65 < cLine) (ha : PE X a (TV X Bs W (evE G cl base ca))) (hb : PE X b (TV X Bs W (evE G cl base cb))) (hs : PlainIx b) : PE X (.Subscript a b pos) (TV X Bs W (evE G cl base (.idx ca cb))) := by
  have hr : IxR X (fun x y H Q => ∃ w cs v u z, HRel X.K w Bs cs H ∧ RepV X.K w v x ∧ RepV X.K w u y ∧ opIdx cs v u = some z ∧ ∀ b, RepV X.K w z b → Q b H) := by
    intro value slice pins s σ H x y v' u' Q I r1 r2 ⟨w, cs, v, u, z, hh, rv, ru, e, q⟩ hs
    exact opr_idx hu I hh rv ru e q r1 r2 hs
  refine PE.imp (pe_ix hr ha hb hs) fun σ H Q h => T.bind (g := fun s v cs => (evE G cl base cb s cs).bind fun u cs => R.of (opIdx cs v u) cs) h fun w s v x cs H1 hs hh r run =>
    T.next hs hh run fun w1 u y cs1 H2 l hh2 r2 run2 => ?_
  obtain ⟨z, ez, run2⟩ := run2.some_
  exact ⟨w1, cs1, v, u, z, hh2, r.mono l, r2, ez, fun b rb => run2.done hh2 rb⟩
abbrev TOo (X : Cx) (Bs : BX) (W : WX) (f : LSt → Cells → R (Option Int)) : TO := T X.K Bs rO W f
theorem sd_ono : PO X none (TOo X Bs W (evO G cl base .no)) := ⟨fun pins s σ H Q I h => po_none.run pins s σ H Q I (by
  obtain ⟨w, st, cs, hs, hh, hr⟩ := h
  exact Run.done (a := none) hr hh rfl)⟩
theorem sd_oyes (ha : PE X a (TV X Bs W (evE G cl base ca))) : PO X (some a) (TOo X Bs W (evO G cl base (.yes ca))) := ⟨fun pins s σ H Q I h => (po_some ha).run pins s σ H Q I (T.bind (g := fun _ v cs => R.of ((asInt v).map some) cs) h fun w s v x cs H1 hs hh r run => by
  cases v with
  | int i =>
    cases r
    exact ⟨i, rfl, Run.done (a := some i) run hh rfl⟩
  | _ => exact run.elim)⟩
theorem sd_slc {lo hi : Option Expr} {cl' ch : Oe} {p2 : Pos} (ha : PE X a (TV X Bs W (evE G cl base ca))) (hl : PO X lo (TOo X Bs W (evO G cl base cl'))) (hh : PO X hi (TOo X Bs W (evO G cl base ch))) : PE X (.Subscript a (.Slice lo hi none p2) pos) (TN X Bs W (evE G cl base (.slc ca cl' ch))) := by
  refine PE.imp (pe_slice (sl_any (Bs := Bs)) ha hl hh) fun σ H Q h => T.bind (g := fun s v cs => (evO G cl base cl' s cs).bind fun l cs => (evO G cl base ch s cs).bind fun h cs => R.of (opSlc cs v l h) cs) h fun w s v x cs H1 hs hh r run =>
    T.next hs hh run fun w1 l1 l1' cs1 H2 l hh2 r2 run2 => T.next (hs.mono l) hh2 run2 fun w2 l2 l2' cs2 H3 l' hh3 r3 run3 => ?_
  obtain rfl : l1 = l1' := r2
  obtain rfl : l2 = l2' := r3
  obtain ⟨z, ez, run3⟩ := run3.some_
  exact ⟨w2, cs2, v, z, hh3, (r.mono l).mono l', ez, fun w' x' H' k h' r' => run3 w' x' H' k h' r'⟩
end
end EV
/-! SdE: what is walked. -/
namespace EV
open PySem PySem.Spec PyProof.Rows L2

section
variable {X : Cx} {Bs : BX} {W : WX} {G : Gl} {cl : CallF} {base : Nat} {pos : Pos} {e : Expr} {c : E} {tg : Expr}
/-- what a source gives by the turns of an iterator -/
structure Walks (X : Cx) (Bs : BX) (w : Wd) (src : Src) (J : L2.It) : Prop where
  go : ∀ i w' cs H v, w.ler w' → HRel X.K w' Bs cs H → src.at_ cs i = some v → J.go i H ∧ ∀ x H', J.yld i H x H' → ∃ w'', w'.le w'' ∧ HRel X.K w'' Bs cs H' ∧ RepV X.K w'' v x
  stop : ∀ w' cs H ys, w.ler w' → HRel X.K w' Bs cs H → src.now cs = some ys → J.stop src.xs.length H
abbrev rI (X : Cx) (Bs : BX) : RP Src L2.It := fun w _ src J => Walks X Bs w src J
abbrev TIt (X : Cx) (Bs : BX) (W : WX) (f : LSt → Cells → R Src) : TI := T X.K Bs (rI X Bs) W f
theorem PI.imp {t t' : TI} (h : PI X tg e t) (k : ∀ σ H R, t' σ H R → t σ H R) : PI X tg e t' := ⟨fun pins s σ H R I q => h.run pins s σ H R I (k σ H R q)⟩
/-- a source whose items are known and whose iterator gives them as they are -/
theorem Walks.plain {w : Wd} {xs : List Val} {J : L2.It} (hgo : ∀ i w' cs H, w.ler w' → HRel X.K w' Bs cs H → i < xs.length → J.go i H)
    (hy : ∀ i w' cs H x H' v, w.ler w' → HRel X.K w' Bs cs H → xs[i]? = some v → J.yld i H x H' → H' = H ∧ RepV X.K w' v x)
    (hs : ∀ w' cs H, w.ler w' → HRel X.K w' Bs cs H → J.stop xs.length H) : Walks X Bs w ⟨xs, none⟩ J where
  go := fun i w' cs H v l hh e => by
    have e : xs[i]? = some v := e
    have hi : i < xs.length := (List.getElem?_eq_some_iff.mp e).1
    refine ⟨hgo i w' cs H l hh hi, fun x H' y => ?_⟩
    obtain ⟨eH, r⟩ := hy i w' cs H x H' v l hh e y
    subst eH
    exact ⟨w', .rfl, hh, r⟩
  stop := fun w' cs H ys l hh _ => hs w' cs H l hh
/-- .. in new pairs -/
theorem Walks.pairs {w : Wd} {xs : List Val} {J : L2.It} (hgo : ∀ i w' cs H, w.ler w' → HRel X.K w' Bs cs H → i < xs.length → J.go i H)
    (hy : ∀ i w' cs H x H' v, w.ler w' → HRel X.K w' Bs cs H → xs[i]? = some v → J.yld i H x H' → ∃ p us ys, v = .tup us ∧ x = .ref p ∧ H p = none ∧ H' = upd H p (.tup ys) ∧ RepL X.K w' us ys)
    (hs : ∀ w' cs H, w.ler w' → HRel X.K w' Bs cs H → J.stop xs.length H) : Walks X Bs w ⟨xs, none⟩ J where
  go := fun i w' cs H v l hh e => by
    have e : xs[i]? = some v := e
    have hi : i < xs.length := (List.getElem?_eq_some_iff.mp e).1
    refine ⟨hgo i w' cs H l hh hi, fun x H' y => ?_⟩
    obtain ⟨p, us, ys, rfl, rfl, hp, rfl, r⟩ := hy i w' cs H x H' v l hh e y
    obtain ⟨l', hh', r'⟩ := hh.newT hp r
    exact ⟨_, l', hh', r'⟩
  stop := fun w' cs H ys l hh _ => hs w' cs H l hh
theorem getl {xs : List Val} {ys : List V} {w : Wd} (r : RepL X.K w xs ys) {i : Nat} (h : i < xs.length) : ∃ b, ys[i]? = some b := ⟨_, List.getElem?_eq_getElem (by rw [← r.length]; exact h)⟩
theorem getr {xs : List Val} {ys : List V} {w : Wd} (r : RepL X.K w xs ys) {i : Nat} {v : Val} {b : V} (h : xs[i]? = some v) (g : ys[i]? = some b) : RepV X.K w v b := by
  obtain ⟨z, h1, h2⟩ := r.get h
  rw [g] at h1
  cases h1
  exact h2
theorem Walks.tup {w : Wd} {p : Addr} {xs : List Val} {ys : List V} (hp : SqT X.K w.F p ys) (r : RepL X.K w xs ys) : Walks X Bs w ⟨xs, none⟩ (Itt X.K p) := by
  refine .plain (fun i w' cs H l hh hi => ?_) (fun i w' cs H x H' v l hh e y => ?_) fun w' cs H l hh => ?_
  · obtain ⟨b, hb⟩ := getl r hi
    exact ⟨ys, b, sqT_mono hh.fr (sqT_mono l.F hp), hb⟩
  · exact ⟨y.1, getr (r.monr l) e (y.2 ys (sqT_mono hh.fr (sqT_mono l.F hp)))⟩
  · exact ⟨ys, sqT_mono hh.fr (sqT_mono l.F hp), by rw [r.length]; exact Nat.le_refl _⟩
theorem Walks.lst {w : Wd} {p : Addr} {xs : List Val} {ys : List V} (hp : w.F p = some (.lst ys)) (r : RepL X.K w xs ys) : Walks X Bs w ⟨xs, none⟩ (Itl X.K p) := by
  have hq : ∀ {w' : Wd} {cs : Cells} {H : Hp}, w.ler w' → HRel X.K w' Bs cs H → SqL X.K H p ys := fun l hh => SqL.of (hh.fr _ _ (l.F _ _ hp))
  refine .plain (fun i w' cs H l hh hi => ?_) (fun i w' cs H x H' v l hh e y => ?_) fun w' cs H l hh => ?_
  · obtain ⟨b, hb⟩ := getl r hi
    exact ⟨ys, b, hq l hh, hb⟩
  · exact ⟨y.1, getr (r.monr l) e (y.2 ys (hq l hh))⟩
  · exact ⟨ys, hq l hh, by rw [r.length]; exact Nat.le_refl _⟩
theorem nowL_some {cs : Cells} {a n : Nat} {ys : List Val} (h : nowL cs a n = some ys) : cs[a]? = some (.lst ys) ∧ ys.length = n := by
  unfold nowL at h
  split at h
  · rename_i zs hz
    split at h
    · rename_i hn
      cases h
      exact ⟨hz, hn⟩
    · cases h
  · cases h
theorem Walks.ref {w : Wd} {a : Nat} (ha : a < w.n) {xs : List Val} : Walks X Bs w ⟨xs, some a⟩ (Itl X.K (w.i a)) where
  go := fun i w' cs H v l hh e => by
    have e : ((nowL cs a xs.length).bind fun ys => ys[i]?) = some v := e
    cases en : nowL cs a xs.length with
    | none => rw [en] at e; cases e
    | some zs =>
      rw [en] at e
      have e : zs[i]? = some v := e
      obtain ⟨h1, h2⟩ := nowL_some en
      obtain ⟨ys, hy, r⟩ := (hh.cell a _ h1).1
      rw [l.i a ha] at hy
      obtain ⟨b, hb, rb⟩ := r.get e
      refine ⟨⟨ys, b, SqL.of hy, hb⟩, fun x H' y => ?_⟩
      obtain ⟨eH, ex⟩ := y
      subst eH
      have := ex ys (SqL.of hy)
      rw [hb] at this
      cases this
      exact ⟨w', .rfl, hh, rb⟩
  stop := fun w' cs H zs l hh e => by
    obtain ⟨h1, h2⟩ := nowL_some (show nowL cs a xs.length = some zs from e)
    obtain ⟨ys, hy, r⟩ := (hh.cell a _ h1).1
    rw [l.i a ha] at hy
    exact ⟨ys, SqL.of hy, by show ys.length ≤ xs.length; rw [← r.length, h2]; exact Nat.le_refl _⟩
theorem Walks.str {w : Wd} {z : List Nat} : Walks X Bs w ⟨z.map fun c => .str [c], none⟩ (Its (tS z)) := by
  refine .plain (fun i w' cs H l hh hi => ?_) (fun i w' cs H x H' v l hh e y => ?_) fun w' cs H l hh => ?_
  · show i < z.toArray.size
    rw [List.length_map] at hi
    rw [List.size_toArray]
    exact hi
  · obtain ⟨eH, d, hd, ex⟩ := y
    subst ex
    have hd : z[i]? = some d := by
      have : z.toArray[i]? = some d := hd
      rwa [List.getElem?_toArray] at this
    rw [List.getElem?_map, hd] at e
    cases e
    exact ⟨eH, .str [d]⟩
  · show z.toArray.size ≤ _
    rw [List.size_toArray, List.length_map]
    exact Nat.le_refl _
theorem RepD.get_ {w : Wd} : ∀ {kvs : List (Val × Val)} {ds : List (Key × V)} {i : Nat} {k : Key} {b : V}, RepD X.K w kvs ds → ds[i]? = some (k, b) → ∃ u a, kvs[i]? = some (u, a) ∧ RepV X.K w u (kV k) ∧ RepV X.K w a b
  | _, _, _, _, _, .nil, h => by simp at h
  | _, _, 0, k, b, .cons (k := u) hk h r, e => by
    have e := Option.some.inj e
    cases e
    refine ⟨_, _, rfl, ?_, h⟩
    cases u with
    | str s => cases hk; exact .str s
    | int s => cases hk; exact .int s
    | _ => cases hk
  | _, _, i + 1, k, b, .cons hk h r, e => RepD.get_ (i := i) r e
theorem Walks.keys {w : Wd} {p : Addr} {o : Obj} {kvs : List (Val × Val)} {ds : List (Key × V)} (hp : w.F p = some (.frz o (.dK ds))) (r : RepD X.K w kvs ds) : Walks X Bs w ⟨kvs.map (·.1), none⟩ (Itk p o ds) := by
  refine .plain (fun i w' cs H l hh hi => ?_) (fun i w' cs H x H' v l hh e y => ?_) fun w' cs H l hh => ?_
  · exact ⟨hh.fr _ _ (l.F _ _ hp), by rw [List.length_map, r.length] at hi; exact hi⟩
  · obtain ⟨eH, k, b, hk, ex⟩ := y
    subst ex
    obtain ⟨u, a, h1, h2, _⟩ := RepD.get_ (r.monr l) hk
    rw [List.getElem?_map, h1] at e
    cases e
    exact ⟨eH, h2⟩
  · exact ⟨hh.fr _ _ (l.F _ _ hp), by rw [List.length_map, r.length]; exact Nat.le_refl _⟩
theorem Walks.vals {w : Wd} {p : Addr} {o : Obj} {kvs : List (Val × Val)} {ds : List (Key × V)} (hp : w.F p = some (.frz o (.dK ds))) (r : RepD X.K w kvs ds) : Walks X Bs w ⟨kvs.map (·.2), none⟩ (Itd p o ds) := by
  refine .plain (fun i w' cs H l hh hi => ?_) (fun i w' cs H x H' v l hh e y => ?_) fun w' cs H l hh => ?_
  · exact ⟨hh.fr _ _ (l.F _ _ hp), by rw [List.length_map, r.length] at hi; exact hi⟩
  · obtain ⟨eH, k, hk⟩ := y
    obtain ⟨u, a, h1, _, h2⟩ := RepD.get_ (r.monr l) hk
    rw [List.getElem?_map, h1] at e
    cases e
    exact ⟨eH, h2⟩
  · exact ⟨hh.fr _ _ (l.F _ _ hp), by rw [List.length_map, r.length]; exact Nat.le_refl _⟩
theorem Walks.items {w : Wd} {p : Addr} {o : Obj} {kvs : List (Val × Val)} {ds : List (Key × V)} (hp : w.F p = some (.frz o (.dK ds))) (r : RepD X.K w kvs ds) : Walks X Bs w ⟨kvs.map fun p => .tup [p.1, p.2], none⟩ (Iti p o ds) := by
  refine .pairs (fun i w' cs H l hh hi => ?_) (fun i w' cs H x H' v l hh e y => ?_) fun w' cs H l hh => ?_
  · exact ⟨hh.fr _ _ (l.F _ _ hp), by rw [List.length_map, r.length] at hi; exact hi⟩
  · obtain ⟨q, k, b, hk, ex, hq, eH⟩ := y
    obtain ⟨u, a, h1, h2, h3⟩ := RepD.get_ (r.monr l) hk
    rw [List.getElem?_map, h1] at e
    cases e
    exact ⟨q, _, _, rfl, ex, hq, eH, .cons h2 (.cons h3 .nil)⟩
  · exact ⟨hh.fr _ _ (l.F _ _ hp), by rw [List.length_map, r.length]; exact Nat.le_refl _⟩
theorem Walks.range {w : Wd} {lo : Int} {n : Nat} : Walks X Bs w ⟨rangeV lo n, none⟩ (Itr lo n) := by
  have hl : (rangeV lo n).length = n := by unfold rangeV; rw [List.length_map, List.length_range]
  refine .plain (fun i w' cs H l hh hi => ?_) (fun i w' cs H x H' v l hh e y => ?_) fun w' cs H l hh => ?_
  · rw [hl] at hi
    exact hi
  · obtain ⟨eH, ex⟩ := y
    subst ex
    unfold rangeV at e
    rw [List.getElem?_map] at e
    cases q : (List.range n)[i]? with
    | none => rw [q] at e; cases e
    | some j =>
      rw [q] at e
      have : j = i := by
        have := List.getElem?_eq_some_iff.mp q
        obtain ⟨h1, h2⟩ := this
        rw [List.getElem_range] at h2
        exact h2.symm
      subst this
      cases e
      exact ⟨eH, .int _⟩
  · show n ≤ _
    rw [hl]
    exact Nat.le_refl _
theorem enumV_get : ∀ (xs : List Val) (j i : Nat), (enumV j xs)[i]? = (xs[i]?).map fun x => Val.tup [.int ((j + i : Nat) : Int), x]
  | [], _, _ => by simp [enumV]
  | x :: xs, j, 0 => by simp [enumV]
  | x :: xs, j, i + 1 => by
    unfold enumV
    rw [List.getElem?_cons_succ, List.getElem?_cons_succ, enumV_get xs (j + 1) i, show j + 1 + i = j + (i + 1) by omega]
theorem enumV_len : ∀ (xs : List Val) (j : Nat), (enumV j xs).length = xs.length
  | [], _ => rfl
  | x :: xs, j => congrArg (· + 1) (enumV_len xs (j + 1))
theorem Walks.enum {w : Wd} {p : Addr} {xs : List Val} {ys : List V} (hp : w.F p = some (.lst ys)) (r : RepL X.K w xs ys) : Walks X Bs w ⟨enumV 0 xs, none⟩ (Ite X.K p) := by
  have hq : ∀ {w' : Wd} {cs : Cells} {H : Hp}, w.ler w' → HRel X.K w' Bs cs H → SqL X.K H p ys := fun l hh => SqL.of (hh.fr _ _ (l.F _ _ hp))
  refine .pairs (fun i w' cs H l hh hi => ?_) (fun i w' cs H x H' v l hh e y => ?_) fun w' cs H l hh => ?_
  · rw [enumV_len] at hi
    obtain ⟨b, hb⟩ := getl r hi
    exact ⟨ys, b, hq l hh, hb⟩
  · obtain ⟨q, b, ex, hn, eH, hb⟩ := y
    rw [enumV_get, Nat.zero_add] at e
    cases ez : xs[i]? with
    | none => rw [ez] at e; cases e
    | some z =>
      rw [ez] at e
      cases e
      exact ⟨q, _, _, rfl, ex, hn, eH, .cons (.int _) (.cons (getr (r.monr l) ez (hb ys (hq l hh))) .nil)⟩
  · exact ⟨ys, hq l hh, by rw [enumV_len, r.length]; exact Nat.le_refl _⟩
theorem zip2V_get : ∀ (xs ys : List Val) (i : Nat) (v : Val), (zip2V xs ys)[i]? = some v → ∃ x y, xs[i]? = some x ∧ ys[i]? = some y ∧ v = .tup [x, y]
  | [], _, _, _, h => by simp [zip2V] at h
  | _ :: _, [], _, _, h => by simp [zip2V] at h
  | x :: xs, y :: ys, 0, v, h => ⟨x, y, rfl, rfl, by cases h; rfl⟩
  | x :: xs, y :: ys, i + 1, v, h => zip2V_get xs ys i v (by unfold zip2V at h; rwa [List.getElem?_cons_succ] at h)
theorem zip2V_len : ∀ (xs ys : List Val), (zip2V xs ys).length = min xs.length ys.length
  | [], _ => by simp [zip2V]
  | _ :: _, [] => by simp [zip2V]
  | x :: xs, y :: ys => by
    unfold zip2V
    rw [List.length_cons, List.length_cons, List.length_cons, zip2V_len xs ys]
    omega
theorem Walks.zipL {w : Wd} {p q : Addr} {xs zs : List Val} {ys us : List V} (hp : w.F p = some (.lst ys)) (r : RepL X.K w xs ys) (hq : w.F q = some (.lst us)) (r2 : RepL X.K w zs us) : Walks X Bs w ⟨zip2V xs zs, none⟩ (Itz X.K p q) := by
  have h1 : ∀ {w' : Wd} {cs : Cells} {H : Hp}, w.ler w' → HRel X.K w' Bs cs H → SqL X.K H p ys := fun l hh => SqL.of (hh.fr _ _ (l.F _ _ hp))
  have h2 : ∀ {w' : Wd} {cs : Cells} {H : Hp}, w.ler w' → HRel X.K w' Bs cs H → SqL X.K H q us := fun l hh => SqL.of (hh.fr _ _ (l.F _ _ hq))
  refine .pairs (fun i w' cs H l hh hi => ?_) (fun i w' cs H x H' v l hh e y => ?_) fun w' cs H l hh => ?_
  · rw [zip2V_len] at hi
    obtain ⟨b, hb⟩ := getl r (i := i) (by omega)
    obtain ⟨d, hd⟩ := getl r2 (i := i) (by omega)
    exact ⟨ys, us, b, d, h1 l hh, h2 l hh, hb, hd⟩
  · obtain ⟨t, b, d, ex, hn, eH, hb, hd⟩ := y
    obtain ⟨m, n, e1, e2, rfl⟩ := zip2V_get xs zs i v e
    exact ⟨t, _, _, rfl, ex, hn, eH, .cons (getr (r.monr l) e1 (hb ys (h1 l hh))) (.cons (getr (r2.monr l) e2 (hd us (h2 l hh))) .nil)⟩
  · refine ⟨ys, us, h1 l hh, h2 l hh, ?_⟩
    have hz := zip2V_len xs zs
    rw [r.length, r2.length] at hz
    show ys.length ≤ (zip2V xs zs).length ∨ us.length ≤ (zip2V xs zs).length
    omega
theorem Walks.zipT {w : Wd} {p q : Addr} {xs zs : List Val} {ys us : List V} (hp : SqT X.K w.F p ys) (r : RepL X.K w xs ys) (hq : SqT X.K w.F q us) (r2 : RepL X.K w zs us) : Walks X Bs w ⟨zip2V xs zs, none⟩ (RZ.ItzT X.K p q) := by
  have h1 : ∀ {w' : Wd} {cs : Cells} {H : Hp}, w.ler w' → HRel X.K w' Bs cs H → SqT X.K H p ys := fun l hh => sqT_mono hh.fr (sqT_mono l.F hp)
  have h2 : ∀ {w' : Wd} {cs : Cells} {H : Hp}, w.ler w' → HRel X.K w' Bs cs H → SqT X.K H q us := fun l hh => sqT_mono hh.fr (sqT_mono l.F hq)
  refine .pairs (fun i w' cs H l hh hi => ?_) (fun i w' cs H x H' v l hh e y => ?_) fun w' cs H l hh => ?_
  · rw [zip2V_len] at hi
    obtain ⟨b, hb⟩ := getl r (i := i) (by omega)
    obtain ⟨d, hd⟩ := getl r2 (i := i) (by omega)
    exact ⟨ys, us, b, d, h1 l hh, h2 l hh, hb, hd⟩
  · obtain ⟨t, b, d, ex, hn, eH, hb, hd⟩ := y
    obtain ⟨m, n, e1, e2, rfl⟩ := zip2V_get xs zs i v e
    exact ⟨t, _, _, rfl, ex, hn, eH, .cons (getr (r.monr l) e1 (hb ys (h1 l hh))) (.cons (getr (r2.monr l) e2 (hd us (h2 l hh))) .nil)⟩
  · refine ⟨ys, us, h1 l hh, h2 l hh, ?_⟩
    have hz := zip2V_len xs zs
    rw [r.length, r2.length] at hz
    show ys.length ≤ (zip2V xs zs).length ∨ us.length ≤ (zip2V xs zs).length
    omega

/-! ### the iterators come -/
theorem sd_seq (he : PE X e (TV X Bs W (evE G cl base c))) : PI X tg e (TIt X Bs W (evI G cl base (.seq c))) := by
  refine ⟨fun pins s σ H RR I h => ?_⟩
  refine thn (he.run pins s σ H (fun x H1 => ∃ w cs v src, HRel X.K w Bs cs H1 ∧ RepV X.K w v x ∧ srcOf cs v = some src ∧ ∀ J, Walks X Bs w src J → RR J H1) I ?_) fun u s1 ⟨x, H1, I1, r1, w, cs, v, src, hh, rv, es, q⟩ => ?_
  · refine T.bind (g := fun _ v cs => R.of (srcOf cs v) cs) h fun w s v x cs H1 hs hh r run => ?_
    obtain ⟨src, es, run⟩ := run.some_
    exact ⟨w, cs, v, src, hh, r, es, fun J hJ => run.done hh hJ⟩
  · unfold srcOf at es
    split at es
    · cases es
      cases rv with
      | tup hp r =>
        cases r1
        obtain ⟨its, rs, p, hz⟩ := I1.tuple (sqT_mono hh.fr hp)
        exact wpAny_pyIter_tuple (show s1.heap.IsTuple _ its.toArray from p) (pi_one (tk := s1.toks) I1 _ (turn_tuple _ _) ⟨_, Heap.get?_push_size _ rfl, rfl, rfl⟩ (q _ (.tup hp r)))
    · cases es
      cases rv with
      | lst hp r =>
        cases r1
        obtain ⟨its, rs, p, hz⟩ := I1.list (SqL.of (hh.fr _ _ hp))
        exact wpAny_pyIter_list p.isList (pi_one (tk := s1.toks) I1 _ (turn_list _ _) ⟨_, Heap.get?_push_size _ rfl, rfl, rfl⟩ (q _ (.lst hp r)))
    · rename_i z
      cases es
      cases rv
      obtain ⟨t, rfl⟩ := r1
      cases ha : (tS z).cps.all (· < 128)
      · exact wpAny_pyIter_wide ha (pi_one (tk := s1.toks) I1 _ (turn_str _ (tS z) t "str_iterator" (.inr rfl)) ⟨_, Heap.get?_push_size _ rfl, rfl, rfl⟩ (q _ .str))
      · exact wpAny_pyIter_ascii ha (pi_one (tk := s1.toks) I1 _ (turn_str _ (tS z) t "str_ascii_iterator" (.inl rfl)) ⟨_, Heap.get?_push_size _ rfl, rfl, rfl⟩ (q _ .str))
    · cases es
      cases rv with
      | dct hp r =>
        cases r1
        obtain ⟨hs, hgd, hx, es, ep, vs, hdt, hsz, kv, hm⟩ := I1.frzK (hh.fr _ _ hp)
        refine iter_keys hs hgd hx hdt (pi_one (tk := s1.toks) I1 _ (turn_keys _ hdt) ⟨_, Heap.get?_push_size _ rfl, rfl, ?_⟩ (q _ (.keys hp r)))
        rw [hsz] <;> rfl
    · rename_i a
      cases rv with
      | ref ha =>
        cases r1
        split at es
        · rename_i xs ec
          cases es
          obtain ⟨ys, hy, _⟩ := (hh.cell a _ ec).1
          obtain ⟨its, rs, p, hz⟩ := I1.list (SqL.of hy)
          exact wpAny_pyIter_list p.isList (pi_one (tk := s1.toks) I1 _ (turn_list _ _) ⟨_, Heap.get?_push_size _ rfl, rfl, rfl⟩ (q _ (.ref ha)))
        · cases es
    · cases es
theorem sd_vals {apos : Pos} (he : PE X e (TV X Bs W (evE G cl base c))) (hbase : attributeBase e "values" X.env (eval e X.env) = eval e X.env) (hline : (apos.endLine == pos.line) = true) : PI X tg (.Call (.Attribute e "values" apos) [] [] pos) (TIt X Bs W (evI G cl base (.vals c))) :=
  PI.imp (pi_values he hbase hline) fun σ H RR h => T.bind (g := fun _ v cs => R.of (valsSrc v) cs) h fun w s v x cs H1 hs hh r run => by
    obtain ⟨src, es, run⟩ := run.some_
    cases r with
    | dct hp r =>
      cases es
      exact ⟨_, _, _, rfl, hh.fr _ _ hp, run.done hh (.vals hp r)⟩
    | _ => cases es
theorem sd_items {apos tpos : Pos} {elts : List Expr} {kk : Nat} (he : PE X e (TV X Bs W (evE G cl base c))) (hbase : attributeBase e "items" X.env (eval e X.env) = eval e X.env) (hline : (apos.endLine == pos.line) = true) :
    PI X (.Tuple elts kk tpos) (.Call (.Attribute e "items" apos) [] [] pos) (TIt X Bs W (evI G cl base (.items c))) :=
  PI.imp (pi_items he hbase hline) fun σ H RR h => T.bind (g := fun _ v cs => R.of (itemsSrc v) cs) h fun w s v x cs H1 hs hh r run => by
    obtain ⟨src, es, run⟩ := run.some_
    cases r with
    | dct hp r =>
      cases es
      exact ⟨_, _, _, rfl, hh.fr _ _ hp, run.done hh (.items hp r)⟩
    | _ => cases es
theorem sd_one {cr : E} {e : Expr} (ha : PE X e (TV X Bs W (evE G cl base cr))) (hs : starEach [e] X.env = (false, eval e X.env) :: starEach [] X.env) : PA X [e] (TL X Bs W (evEs G cl base (.cons cr .nil))) := sd_cons ha sd_nil hs
theorem T.as {α β : Type} {Rp : RP α β} {f g : LSt → Cells → R α} {σ : L2.St} {H : Hp} {Q : β → Hp → Prop} (h : T X.K Bs Rp W g σ H Q) (e : ∀ s cs, f s cs = g s cs) : T X.K Bs Rp W f σ H Q := by
  obtain ⟨w, s, cs, hs, hh, hr⟩ := h
  exact ⟨w, s, cs, hs, hh, by rw [e]; exact hr⟩
theorem sd_rng1 {p : Pos} (hg : L2.Gl X "range") (hm : X.mg "range" = none) (ha : PE X e (TV X Bs W (evE G cl base c))) (hs : starEach [e] X.env = [(false, eval e X.env)]) : PI X tg (.Call (.Name "range" p) [e] [] pos) (TIt X Bs W (evI G cl base (.rng1 c))) := by
  refine PI.imp (pi_range1 hg hm (sd_one ha hs) hs) fun σ H RR h => T.bind (g := fun _ vs cs => R.of (match vs with
    | [v] => rng1Src v
    | _ => none) cs) (T.as h fun s cs => ?_) fun w s vs xs cs H1 hs hh r run => ?_
  · show ((evE G cl base c s cs).bind _).bind _ = (evE G cl base c s cs).bind _
    cases evE G cl base c s cs <;> rfl
  · obtain ⟨src, es, run⟩ := run.some_
    split at es
    · rename_i v
      cases v with
      | int j =>
        cases r with
        | cons r1 r2 =>
          cases r2
          cases r1
          have es : (if j < 1000000 ∧ -1000000 < j then some (⟨rangeV 0 j.toNat, none⟩ : Src) else none) = some src := es
          by_cases hj : j < 1000000 ∧ -1000000 < j
          · rw [if_pos hj] at es
            cases es
            exact ⟨j, rfl, by omega, by omega, run.done hh .range⟩
          · rw [if_neg hj] at es
            cases es
      | _ => cases es
    · cases es
theorem sd_rng2 {p : Pos} {e2 : Expr} {c2 : E} (hg : L2.Gl X "range") (hm : X.mg "range" = none) (ha : PE X e (TV X Bs W (evE G cl base c))) (hb : PE X e2 (TV X Bs W (evE G cl base c2)))
    (hs : starEach [e, e2] X.env = [(false, eval e X.env), (false, eval e2 X.env)]) (hs2 : starEach [e2] X.env = [(false, eval e2 X.env)]) : PI X tg (.Call (.Name "range" p) [e, e2] [] pos) (TIt X Bs W (evI G cl base (.rng2 c c2))) := by
  refine PI.imp (pi_range2 hg hm (sd_cons ha (sd_one hb hs2) (by rw [hs, hs2])) hs hs2) fun σ H RR h => T.bind (g := fun _ vs cs => R.of (match vs with
    | [v, u] => rng2Src v u
    | _ => none) cs) (T.as h fun s cs => ?_) fun w s vs xs cs H1 hs hh r run => ?_
  · show ((evE G cl base c s cs).bind _).bind _ = (evE G cl base c s cs).bind _
    cases evE G cl base c s cs with
    | ok v cs1 =>
      show (((evE G cl base c2 s cs1).bind _).bind _).bind _ = (evE G cl base c2 s cs1).bind _
      cases evE G cl base c2 s cs1 with
      | ok u cs2 => rfl
      | exc x cs1 => rfl
      | bad => rfl
    | exc x cs1 => rfl
    | bad => rfl
  · obtain ⟨src, es, run⟩ := run.some_
    split at es
    · cases r with
      | cons r1 r2 =>
        cases r2 with
        | cons r2 r3 =>
          cases r3
          unfold rng2Src at es
          split at es
          · rename_i i j
            cases r1
            cases r2
            by_cases hj : i < 1000000 ∧ -1000000 < i ∧ j < 1000000 ∧ -1000000 < j
            · rw [if_pos hj] at es
              cases es
              exact ⟨i, j, rfl, by omega, run.done hh .range⟩
            · rw [if_neg hj] at es
              cases es
          · cases es
    · cases es
end
end EV
/-! SdF: targets, statements, loops. -/
namespace EV
open PySem PySem.Spec PyProof.Rows L2

/-! ### values carried to another world -/
section
variable {K : Fg} {w w' : Wd} {b : Nat}
theorem and2 {a b : Bool} (h : (a && b) = true) : a = true ∧ b = true := by rwa [Bool.and_eq_true] at h
mutual
theorem RepV.tr (hi : ∀ a, a < b → a < w.n → a < w'.n ∧ w'.i a = w.i a) (hF : ∀ p o, w.F p = some o → w'.F p = some o) (hx : w'.x = w.x) : ∀ {v : Val} {x : V}, v.undr b = true → RepV K w v x → RepV K w' v x
  | _, _, _, .non => .non
  | _, _, _, .bl b => .bl b
  | _, _, _, .int i => .int i
  | _, _, _, .str s => .str s
  | _, _, u, .tup h r => .tup (sqT_mono hF h) (RepL.tr hi hF hx u r)
  | _, _, u, .lst h r => .lst (hF _ _ h) (RepL.tr hi hF hx u r)
  | _, _, _, .scr h => .scr (sqL_mono hF h)
  | _, _, u, .dct h r => .dct (hF _ _ h) (RepD.tr hi hF hx u r)
  | _, _, u, .obj h g r => .obj (hF _ _ h) (hF _ _ g) (RepF.tr hi hF hx u r)
  | .ref a, _, u, .ref h => by
    obtain ⟨h1, h2⟩ := hi a (Nat.le_of_ble_eq_true u) h
    rw [← h2]
    exact .ref h1
  | _, _, _, .glo x => .glo x
  | _, _, _, .exn0 h => .exn0 (by rw [hx]; exact h)
  | _, _, u, .exn h g r => .exn (by rw [hx]; exact h) (hF _ _ g) (RepF.tr hi hF hx u r)
theorem RepL.tr (hi : ∀ a, a < b → a < w.n → a < w'.n ∧ w'.i a = w.i a) (hF : ∀ p o, w.F p = some o → w'.F p = some o) (hx : w'.x = w.x) : ∀ {v : List Val} {x : List V}, Val.undrL b v = true → RepL K w v x → RepL K w' v x
  | _, _, _, .nil => .nil
  | _, _, u, .cons h r => .cons (RepV.tr hi hF hx (and2 u).1 h) (RepL.tr hi hF hx (and2 u).2 r)
theorem RepD.tr (hi : ∀ a, a < b → a < w.n → a < w'.n ∧ w'.i a = w.i a) (hF : ∀ p o, w.F p = some o → w'.F p = some o) (hx : w'.x = w.x) : ∀ {v : List (Val × Val)} {x : List (Key × V)}, Val.undrD b v = true → RepD K w v x → RepD K w' v x
  | _, _, _, .nil => .nil
  | _, _, u, .cons k h r => .cons k (RepV.tr hi hF hx (and2 (and2 u).2).1 h) (RepD.tr hi hF hx (and2 (and2 u).2).2 r)
theorem RepF.tr (hi : ∀ a, a < b → a < w.n → a < w'.n ∧ w'.i a = w.i a) (hF : ∀ p o, w.F p = some o → w'.F p = some o) (hx : w'.x = w.x) : ∀ {v : List (Str × Val)} {x : List (Str × V)}, Val.undrF b v = true → RepF K w v x → RepF K w' v x
  | _, _, _, .nil => .nil
  | _, _, u, .cons h r => .cons (RepV.tr hi hF hx (and2 u).1 h) (RepF.tr hi hF hx (and2 u).2 r)
end
end

/-! ### runs of statements -/
structure Fr where
  keep : Bool
  base : Nat
  Bs : BX
def Wd.cut (b : Nat) (w : Wd) : Wd := { w with n := min b w.n }
theorem Wd.cut_mono {b : Nat} {w w' : Wd} (l : w.le w') : (w.cut b).le (w'.cut b) := ⟨by show min b w.n ≤ min b w'.n; have := l.n; omega, fun a ha => l.i a (by have : a < min b w.n := ha; omega), l.F, l.A, l.x⟩
def Fr.rw (f : Fr) (w : Wd) : Wd := if f.keep = true then w else w.cut f.base
def Fr.rB (f : Fr) : BX := if f.keep = true then f.Bs else ⟨f.Bs.l.tail, f.Bs.xo⟩
theorem Fr.rw_mono {f : Fr} {w w' : Wd} (l : w.le w') : (f.rw w).le (f.rw w') := by
  unfold Fr.rw
  split
  · exact l
  · exact Wd.cut_mono l
section
variable {K : Fg} {f : Fr} {W : WX}
def RunS (K : Fg) (f : Fr) (W : WX) (w : Wd) (D : Ends) : SR → Prop
  | .nx s cs => ∀ w' σ' H', w.le w' → SRel K w' s σ' → HRel K w' f.Bs cs H' → D.nx σ' H'
  | .bk s cs => ∀ w' σ' H', w.le w' → SRel K w' s σ' → HRel K w' f.Bs cs H' → D.bk σ' H'
  | .ct s cs => ∀ w' σ' H', w.le w' → SRel K w' s σ' → HRel K w' f.Bs cs H' → D.ct σ' H'
  | .rt v cs => ∀ w' x H', (f.rw w).le w' → HRel K w' f.rB cs H' → RepV K w' v x → D.rt x H'
  | .exc e s cs => ∀ w' σ' H' c d, w.le w' → SRel K w' s σ' → HRel K w' f.Bs cs H' → RepX K w' e c d → W c d σ' H'
  | .bad => False
theorem RunS.mono {w w1 : Wd} {D : Ends} {r : SR} (l : w.le w1) (h : RunS K f W w D r) : RunS K f W w1 D r := by
  cases r with
  | nx s cs => exact fun w' σ' H' l' => h w' σ' H' (l.trans l')
  | bk s cs => exact fun w' σ' H' l' => h w' σ' H' (l.trans l')
  | ct s cs => exact fun w' σ' H' l' => h w' σ' H' (l.trans l')
  | rt v cs => exact fun w' x H' l' => h w' x H' ((Fr.rw_mono l).trans l')
  | exc e s cs => exact fun w' σ' H' c d l' => h w' σ' H' c d (l.trans l')
  | bad => exact h
theorem RunS.ofR {α β : Type} {Rp : RP α β} {r : R α} {w : Wd} {D : Ends} {s : LSt} {σ : L2.St} {k : α → Cells → SR} {Q : β → Hp → Prop} (h : RunS K f W w D (SR.ofR r s k)) (hs : SRel K w s σ)
    (q : ∀ w' a x cs H', w.le w' → HRel K w' f.Bs cs H' → Rp w' H' a x → RunS K f W w' D (k a cs) → Q x H') : Run K f.Bs Rp W σ w Q r := by
  cases r with
  | ok a cs => exact fun w' x H' l hh rp => q w' a x cs H' l hh rp (RunS.mono l h)
  | exc e cs => exact fun w' H' c d l hh rx => h w' σ H' c d l (hs.mono l) hh rx
  | bad => exact h
theorem RunS.ofO {α : Type} {o : Option α} {w : Wd} {D : Ends} {k : α → SR} (h : RunS K f W w D (SR.ofO o k)) : ∃ a, o = some a ∧ RunS K f W w D (k a) := by
  cases o with
  | some a => exact ⟨a, rfl, h⟩
  | none => exact h.elim
def TSm (K : Fg) (f : Fr) (W : WX) (g : LSt → Cells → SR) : TS := fun D σ H => ∃ w s cs, SRel K w s σ ∧ HRel K w f.Bs cs H ∧ RunS K f W w D (g s cs)
end
section
variable {X : Cx} {f : Fr} {W : WX} {G : Gl} {cl : CallF} {pos : Pos} {e : Expr} {c : E} {D : Ends} {σ : L2.St} {H : Hp}
/-- a run of an expression and what stands behind it -/
theorem TSm.ofR {α β : Type} {Rp : RP α β} {g : LSt → Cells → R α} {k : LSt → α → Cells → SR} {Q : β → Hp → Prop} (h : TSm X.K f W (fun s cs => SR.ofR (g s cs) s (k s)) D σ H)
    (q : ∀ w s a x cs H', SRel X.K w s σ → HRel X.K w f.Bs cs H' → Rp w H' a x → RunS X.K f W w D (k s a cs) → Q x H') : T X.K f.Bs Rp W g σ H Q := by
  obtain ⟨w, s, cs, hs, hh, hr⟩ := h
  exact ⟨w, s, cs, hs, hh, hr.ofR hs fun w' a x cs1 H' l hh' rp run => q w' s a x cs1 H' (hs.mono l) hh' rp run⟩
abbrev TM (X : Cx) (f : Fr) (W : WX) (G : Gl) (cl : CallF) (b : Ss) : TS := TSm X.K f W (evSs G cl f.base f.keep b)
abbrev TM1 (X : Cx) (f : Fr) (W : WX) (G : Gl) (cl : CallF) (b : S) : TS := TSm X.K f W (evS G cl f.base f.keep b)

/-! ### targets -/
def setM : List Nat → List V → L2.St → L2.St
  | i :: is, v :: vs, σ => setM is vs (σ.set i (some v))
  | _, _, σ => σ
theorem setM_rel {w : Wd} : ∀ {is : List Nat} {vs : List Val} {xs : List V} {s s' : LSt} {σ : L2.St}, RepL X.K w vs xs → setAll is vs s = some s' → SRel X.K w s σ → SRel X.K w s' (setM is xs σ)
  | [], [], _, s, s', σ, .nil, e, h => by
    cases e
    exact h
  | i :: is, v :: vs, _, s, s', σ, .cons r t, e, h => setM_rel (is := is) t e (h.set i r)
  | [], _ :: _, _, _, _, _, _, e, _ => nomatch e
  | _ :: _, [], _, _, _, _, _, e, _ => nomatch e
theorem setAll_len : ∀ {is : List Nat} {vs : List Val} {s s' : LSt}, setAll is vs s = some s' → vs.length = is.length
  | [], [], _, _, _ => rfl
  | _ :: is, _ :: vs, _, _, e => congrArg (· + 1) (setAll_len (is := is) e)
  | [], _ :: _, _, _, e => nomatch e
  | _ :: _, [], _, _, e => nomatch e
theorem wipe_get {σ : L2.St} {j : Nat} : ∀ {is : List Nat}, j ∈ is → (wipe σ is)[j]? = if j < σ.length then some none else none
  | [], h => by simp at h
  | i :: is, h => by
    unfold wipe
    by_cases e : i = j
    · subst e
      by_cases hl : i < σ.length
      · rw [if_pos hl, List.getElem?_set_self (by rw [wipe_length]; exact hl)]
      · rw [if_neg hl, List.getElem?_eq_none (by rw [List.length_set, wipe_length]; omega)]
    · rw [List.getElem?_set_ne e]
      exact wipe_get (by
        rcases List.mem_cons.mp h with z | z
        · exact absurd z.symm e
        · exact z)
theorem wipe_ext {σ σ' : L2.St} {is : List Nat} (hl : σ'.length = σ.length) (h : ∀ j, j ∉ is → σ'[j]? = σ[j]?) : wipe σ' is = wipe σ is := by
  apply List.ext_getElem?
  intro j
  by_cases hj : j ∈ is
  · rw [wipe_get hj, wipe_get hj, hl]
  · rw [wipe_out hj, wipe_out hj, h j hj]
theorem setM_len : ∀ (is : List Nat) (vs : List V) (σ : L2.St), (setM is vs σ).length = σ.length
  | [], _, _ => by unfold setM; rfl
  | _ :: _, [], _ => by unfold setM; rfl
  | i :: is, v :: vs, σ => by
    unfold setM
    rw [setM_len is vs, List.length_set]
theorem setM_out {j : Nat} : ∀ (is : List Nat) (vs : List V) (σ : L2.St), j ∉ is → (setM is vs σ)[j]? = σ[j]?
  | [], _, _, _ => by unfold setM; rfl
  | _ :: _, [], _, _ => by unfold setM; rfl
  | i :: is, v :: vs, σ, h => by
    unfold setM
    rw [setM_out is vs _ (fun z => h (List.mem_cons_of_mem _ z)), List.getElem?_set_ne (fun z => h (by rw [z]; exact List.mem_cons_self))]
def gTg (X : Cx) (Bs : BX) (t : Tg) : TG := fun x σ H Q => ∃ w s cs v s', SRel X.K w s σ ∧ HRel X.K w Bs cs H ∧ RepV X.K w v x ∧ setT cs t v s = some s' ∧
  ∀ σ' w' H', w.le w' → SRel X.K w' s' σ' → HRel X.K w' Bs cs H' → σ'.length = σ.length → (∀ j, j ∉ t.slots → σ'[j]? = σ[j]?) → Q σ' H'
theorem PG.imp {tg : Expr} {t t' : TG} (h : PG X tg t) (k : ∀ x σ H Q, t' x σ H Q → t x σ H Q) : PG X tg t' := ⟨fun pins s σ H v u Q I r q => h.run pins s σ H v u Q I r (k v σ H Q q)⟩
/-- a name that the frame holds -/
structure NmOk (X : Cx) (x : Str) (i : Nat) : Prop where
  at_ : X.N[i]? = some x
  loc : Loc X.env.scope x
  fn : X.fn x = true ∨ X.env.scope.names.lookup x = some .local
theorem sg_nm {Bs : BX} {x : Str} {i : Nat} (hN : X.N.Nodup) (h : NmOk X x i) : PG X (.Name x pos) (gTg X Bs (.nm i)) :=
  PG.imp (pg_name hN h.at_ h.loc h.fn) fun x σ H Q ⟨w, s, cs, v, s', hs, hh, r, e, q⟩ => by
    cases e
    exact q _ w H .rfl (hs.set i r) hh (List.length_set ..) fun j hj => List.getElem?_set_ne fun z => hj (by rw [← z]; exact List.mem_cons_self)
inductive NmsOk (X : Cx) : List Expr → List Nat → Prop
  | nil : NmsOk X [] []
  | cons {x : Str} {i : Nat} {p : Pos} {es : List Expr} {is : List Nat} : NmOk X x i → NmsOk X es is → NmsOk X (.Name x p :: es) (i :: is)
theorem NmsOk.pgs (hN : X.N.Nodup) : ∀ {es : List Expr} {is : List Nat}, NmsOk X es is → PGs X es (fun vs σ H Q => vs.length = is.length ∧ Q (setM is vs σ) H) ∧ (assignEach es X.env).length = is.length ∧ (assignEach es X.env).findIdx? (·.1) = none
  | _, _, .nil => by
    refine ⟨⟨fun pins s σ H vs us Q I r h => pgs_nil.run pins s σ H vs us Q I r ?_⟩, rfl, rfl⟩
    obtain ⟨h1, h2⟩ := h
    cases vs with
    | nil => exact ⟨rfl, h2⟩
    | cons _ _ => cases h1
  | _, _, .cons (x := x) (i := i) (is := is) (es := es) h t => by
    obtain ⟨h1, h2, h3⟩ := NmsOk.pgs hN t
    refine ⟨⟨fun pins s σ H vs us Q I r hq => (pgs_cons (pg_name hN h.at_ h.loc h.fn) h1).run pins s σ H vs us Q I r ?_⟩, ?_, ?_⟩
    · obtain ⟨e1, e2⟩ := hq
      cases vs with
      | nil => cases e1
      | cons v vs => exact ⟨v, vs, rfl, Nat.succ.inj e1, e2⟩
    · show (assignEach es X.env).length + 1 = is.length + 1
      rw [h2]
    · show List.findIdx? (·.1) ((false, _) :: assignEach es X.env) = none
      rw [List.findIdx?_cons]
      simp only [Bool.false_eq_true, if_false]
      rw [h3]
      rfl
theorem sg_tp {Bs : BX} {es : List Expr} {is : List Nat} {k : Nat} (hc : X.calm = true) (hN : X.N.Nodup) (h : NmsOk X es is) : PG X (.Tuple es k pos) (gTg X Bs (.tp is)) := by
  obtain ⟨h1, h2, h3⟩ := h.pgs hN
  refine PG.imp (pg_tup hc h1 h2 h3) fun x σ H Q ⟨w, s, cs, v, s', hs, hh, r, e, q⟩ => ?_
  have e : (tupOf v).bind (fun xs => setAll is xs s) = some s' := e
  cases et : tupOf v with
  | none => rw [et] at e; cases e
  | some xs =>
    rw [et] at e
    have e : setAll is xs s = some s' := e
    obtain ⟨p, ys, rfl, hp, r⟩ := hh.tup_ r et
    have hl : ys.length = is.length := by rw [← r.length]; exact setAll_len e
    exact ⟨p, ys, rfl, hp, hl, hl, q _ w H .rfl (setM_rel r e hs) hh (setM_len ..) fun j hj => setM_out _ _ _ hj⟩

/-! ### plain statements -/
theorem sd_snil : PSs X [] (TM X f W G cl .nil) := PSs.imp pss_nil fun D σ H ⟨w, s, cs, hs, hh, hr⟩ => hr w σ H .rfl hs hh
theorem sd_scons {st : Stmt} {rest : List Stmt} {a : S} {b : Ss} (ha : PS X st (TM1 X f W G cl a)) (hb : PSs X rest (TM X f W G cl b)) : PSs X (st :: rest) (TM X f W G cl (.cons a b)) := by
  refine PSs.imp (pss_cons ha hb) fun D σ H ⟨w, s, cs, hs, hh, hr⟩ => ⟨w, s, cs, hs, hh, ?_⟩
  have hr : RunS X.K f W w D (match evS G cl f.base f.keep a s cs with
    | .nx s cs => evSs G cl f.base f.keep b s cs
    | x => x) := hr
  cases e : evS G cl f.base f.keep a s cs with
  | nx s1 cs1 =>
    rw [e] at hr
    exact fun w' σ' H' l hs' hh' => ⟨w', s1, cs1, hs', hh', hr.mono l⟩
  | rt v cs1 => rw [e] at hr; exact hr
  | bk s1 cs1 => rw [e] at hr; exact hr
  | ct s1 cs1 => rw [e] at hr; exact hr
  | exc x s1 cs1 => rw [e] at hr; exact hr
  | bad => rw [e] at hr; exact hr
theorem sd_exp (he : PE X e (TV X f.Bs W (evE G cl f.base c))) (hs : swapsWith e none pos.line X.env = pure false) : PS X (.Expr e pos) (TM1 X f W G cl (.exp c)) :=
  PS.imp (ps_expr he hs) fun D σ H h => TSm.ofR (k := fun s _ cs => SR.nx s cs) h fun w s a x cs H' hs hh r run => run w σ H' .rfl hs hh
theorem sd_asg {tg : Expr} {t : Tg} (he : PE X e (TV X f.Bs W (evE G cl f.base c))) (hg : PG X tg (gTg X f.Bs t)) (hs : swapsWithSole [tg] e pos.line X.env = pure false) (hw : swappedStores [tg] e X.env = pure none) (h1 : (assignEach [tg] X.env).map (·.2) = [assign tg X.env]) : PS X (.Assign [tg] e pos) (TM1 X f W G cl (.asg t c)) := by
  refine PS.imp (ps_asg he hg hs hw h1) fun D σ H h => TSm.ofR (k := fun s v cs => SR.ofO (setT cs t v s) fun s => .nx s cs) h fun w s a x cs H' hs hh r run => ?_
  obtain ⟨s', es, run⟩ := run.ofO
  exact ⟨w, s, cs, a, s', hs, hh, r, es, fun σ' w' H2 l hs' hh' _ _ => run w' σ' H2 l hs' hh'⟩
theorem sd_if {p q : List Stmt} {a b : Ss} (hc : PT X e (TB X f.Bs W (evE G cl f.base c))) (ha : PSs X p (TM X f W G cl a)) (hb : PSs X q (TM X f W G cl b)) : PS X (.If e p q pos) (TM1 X f W G cl (.ite c a b)) := by
  refine PS.imp (ps_if hc ha hb) fun D σ H h => ?_
  refine TSm.ofR (D := D) (g := tst (evE G cl f.base c)) (k := fun s d cs => match d with
    | true => evSs G cl f.base f.keep a s cs
    | false => evSs G cl f.base f.keep b s cs) (Rp := rB) ?_ fun w s d d' cs H' hs hh r run => ?_
  · obtain ⟨w, s, cs, hs, hh, hr⟩ := h
    refine ⟨w, s, cs, hs, hh, Eq.mp (congrArg _ ?_) hr⟩
    show SR.ofR (evE G cl f.base c s cs) s (fun v cs => match truthy cs v with
      | some true => evSs G cl f.base f.keep a s cs
      | some false => evSs G cl f.base f.keep b s cs
      | none => .bad) = SR.ofR ((evE G cl f.base c s cs).bind fun v cs => R.of (truthy cs v) cs) s _
    cases evE G cl f.base c s cs with
    | ok v cs1 =>
      show (match truthy cs1 v with
        | some true => evSs G cl f.base f.keep a s cs1
        | some false => evSs G cl f.base f.keep b s cs1
        | none => .bad) = SR.ofR (R.of (truthy cs1 v) cs1) s _
      cases truthy cs1 v with
      | none => rfl
      | some d => cases d <;> rfl
    | exc x cs1 => rfl
    | bad => rfl
  · obtain rfl : d = d' := r
    cases d with
    | true => exact ⟨w, s, cs, hs, hh, run⟩
    | false => exact ⟨w, s, cs, hs, hh, run⟩
theorem sd_pss : PS X (.Pass pos) (TM1 X f W G cl .pss) := PS.imp ps_pass fun D σ H ⟨w, s, cs, hs, hh, hr⟩ => hr w σ H .rfl hs hh
theorem sd_brk : PS X (.Break pos) (TM1 X f W G cl .brk) := PS.imp ps_break fun D σ H ⟨w, s, cs, hs, hh, hr⟩ => hr w σ H .rfl hs hh
theorem sd_cnt : PS X (.Continue pos) (TM1 X f W G cl .cnt) := PS.imp ps_continue fun D σ H ⟨w, s, cs, hs, hh, hr⟩ => hr w σ H .rfl hs hh

/-! ### loops -/
theorem sd_for {tg it : Expr} {body : List Stmt} {t : Tg} {ci : EV.It} {b : Ss} (hp : PassesOwn (model X.prog X.w) X.A X.env X.xe) (hc : X.calm = true) (hi : PI X tg it (TIt X f.Bs W (evI G cl f.base ci))) (hg : PG X tg (gTg X f.Bs t)) (hb : PSs X body (TM X f W G cl b))
    (hs : ∀ x, foldedSetIterable it X.env x = pure x) : PS X (.For tg it body [] pos) (TM1 X f W G cl (.for_ t ci b)) := by
  refine PS.imp (ps_for hp hc hi hg hb hs) fun D σ H h => ?_
  refine TSm.ofR (k := fun s src cs => loopF src (fun v cs s => setT cs t v s) (fun s cs => evSs G cl f.base f.keep b s cs) src.xs.length 0 s cs) h fun w0 s0 src J cs0 H0 hs0 hh0 hJ run0 => ?_
  refine ⟨fun i m σ H => m + i = src.xs.length ∧ ∃ w s cs, w0.le w ∧ SRel X.K w s σ ∧ HRel X.K w f.Bs cs H ∧ RunS X.K f W w D (loopF src (fun v cs s => setT cs t v s) (fun s cs => evSs G cl f.base f.keep b s cs) m i s cs),
    ⟨_, rfl, w0, s0, cs0, .rfl, hs0, hh0, run0⟩, ?_⟩
  rintro i m σ H ⟨hm, w, s, cs, l, hs, hh, run⟩
  cases m with
  | zero =>
    refine .inl ?_
    have run : RunS X.K f W w D (match src.now cs with
      | some _ => .nx s cs
      | none => .bad) := run
    cases en : src.now cs with
    | none => rw [en] at run; exact run.elim
    | some ys =>
      rw [en] at run
      have := hJ.stop w cs H ys l.r hh en
      rw [← hm, Nat.zero_add] at this
      exact ⟨this, run w σ H .rfl hs hh⟩
  | succ m =>
    refine .inr ?_
    have run : RunS X.K f W w D (match src.at_ cs i with
      | none => .bad
      | some v => match setT cs t v s with
        | none => .bad
        | some s => match evSs G cl f.base f.keep b s cs with
          | .nx s cs => loopF src (fun v cs s => setT cs t v s) (fun s cs => evSs G cl f.base f.keep b s cs) m (i + 1) s cs
          | .ct s cs => loopF src (fun v cs s => setT cs t v s) (fun s cs => evSs G cl f.base f.keep b s cs) m (i + 1) s cs
          | .bk s cs => .nx s cs
          | r => r) := run
    cases ea : src.at_ cs i with
    | none => simp only [ea] at run; exact run.elim
    | some v =>
      simp only [ea] at run
      obtain ⟨hgo, hy⟩ := hJ.go i w cs H v l.r hh ea
      refine ⟨hgo, fun σ' H' => m + (i + 1) = src.xs.length ∧ ∃ w s cs, w0.le w ∧ SRel X.K w s σ' ∧ HRel X.K w f.Bs cs H' ∧ RunS X.K f W w D (loopF src (fun v cs s => setT cs t v s) (fun s cs => evSs G cl f.base f.keep b s cs) m (i + 1) s cs),
        fun σ' H' q => ⟨m, Nat.lt_succ_self _, q⟩, fun x H' y => ?_⟩
      obtain ⟨w2, l2, hh2, r2⟩ := hy x H' y
      cases es : setT cs t v s with
      | none => simp only [es] at run; exact run.elim
      | some s' =>
        simp only [es] at run
        refine ⟨w2, s, cs, v, s', hs.mono l2, hh2, r2, es, fun σ3 w3 H3 l3 hs3 hh3 _ _ => ⟨w3, s', cs, hs3, hh3, ?_⟩⟩
        have l5 : w.le w3 := l2.trans l3
        cases eb : evSs G cl f.base f.keep b s' cs with
        | nx s4 cs4 =>
          simp only [eb] at run
          exact fun w' σ' H' l' hs' hh' => ⟨by omega, w', s4, cs4, l.trans (l5.trans l'), hs', hh', run.mono (l5.trans l')⟩
        | ct s4 cs4 =>
          simp only [eb] at run
          exact fun w' σ' H' l' hs' hh' => ⟨by omega, w', s4, cs4, l.trans (l5.trans l'), hs', hh', run.mono (l5.trans l')⟩
        | bk s4 cs4 =>
          simp only [eb] at run
          exact fun w' σ' H' l' hs' hh' => run w' σ' H' (l5.trans l') hs' hh'
        | rt v cs4 =>
          simp only [eb] at run
          exact run.mono l5
        | exc x s4 cs4 =>
          simp only [eb] at run
          exact run.mono l5
        | bad =>
          simp only [eb] at run
          exact run
theorem sd_whl {body : List Stmt} {b : Ss} (hp : PassesOwn (model X.prog X.w) X.A X.env X.xe) (hc : PT X e (TB X f.Bs W (evE G cl f.base c))) (hb : PSs X body (TM X f W G cl b)) : PS X (.While e body [] pos) (TM1 X f W G cl (.whl c b)) := by
  refine PS.imp (ps_while hp hc hb) fun D σ H h => ?_
  refine ⟨fun m σ H => ∃ w s cs, SRel X.K w s σ ∧ HRel X.K w f.Bs cs H ∧ RunS X.K f W w D (loopW m (tst (evE G cl f.base c)) (fun s cs => evSs G cl f.base f.keep b s cs) s cs), ⟨whileN, h⟩, ?_⟩
  rintro m σ H ⟨w, s, cs, hs, hh, run⟩
  cases m with
  | zero => exact run.elim
  | succ m =>
    refine ⟨w, s, cs, hs, hh, ?_⟩
    have run : RunS X.K f W w D (match tst (evE G cl f.base c) s cs with
      | .ok true cs => match evSs G cl f.base f.keep b s cs with
        | .nx s cs => loopW m (tst (evE G cl f.base c)) (fun s cs => evSs G cl f.base f.keep b s cs) s cs
        | .ct s cs => loopW m (tst (evE G cl f.base c)) (fun s cs => evSs G cl f.base f.keep b s cs) s cs
        | .bk s cs => .nx s cs
        | r => r
      | .ok false cs => .nx s cs
      | .exc x cs => .exc x s cs
      | .bad => .bad) := run
    cases ec : tst (evE G cl f.base c) s cs with
    | bad => simp only [ec] at run; exact run
    | exc x cs1 =>
      simp only [ec] at run
      exact fun w' H' c d l hh' rx => run w' σ H' c d l (hs.mono l) hh' rx
    | ok d cs1 =>
      intro w' d' H' l hh' r
      obtain rfl : d = d' := r
      cases d with
      | false =>
        simp only [ec] at run
        exact run w' σ H' l (hs.mono l) hh'
      | true =>
        simp only [ec] at run
        refine ⟨fun σ' H' => ∃ w s cs, SRel X.K w s σ' ∧ HRel X.K w f.Bs cs H' ∧ RunS X.K f W w D (loopW m (tst (evE G cl f.base c)) (fun s cs => evSs G cl f.base f.keep b s cs) s cs), fun σ' H' q => ⟨m, Nat.lt_succ_self _, q⟩, w', s, cs1, hs.mono l, hh', ?_⟩
        cases eb : evSs G cl f.base f.keep b s cs1 with
        | nx s4 cs4 =>
          simp only [eb] at run
          exact fun w2 σ' H' l' hs' hh' => ⟨w2, s4, cs4, hs', hh', run.mono (l.trans l')⟩
        | ct s4 cs4 =>
          simp only [eb] at run
          exact fun w2 σ' H' l' hs' hh' => ⟨w2, s4, cs4, hs', hh', run.mono (l.trans l')⟩
        | bk s4 cs4 =>
          simp only [eb] at run
          exact fun w2 σ' H' l' hs' hh' => run w2 σ' H' (l.trans l') hs' hh'
        | rt v cs4 =>
          simp only [eb] at run
          exact run.mono l
        | exc x s4 cs4 =>
          simp only [eb] at run
          exact run.mono l
        | bad =>
          simp only [eb] at run
          exact run
end
end EV
/-! SdG: cells dropped and values frozen: what a def leaves behind. -/
namespace EV
open PySem PySem.Spec PyProof.Rows L2

section
variable {K : Fg} {w : Wd} {Bs Bs' : BX} {cs : Cells} {H : Hp} {b : Nat}
theorem take_get {α : Type} {l : List α} {n i : Nat} {x : α} (h : (l.take n)[i]? = some x) : i < n ∧ l[i]? = some x := by
  by_cases hi : i < n
  · rw [List.getElem?_take_of_lt hi] at h
    exact ⟨hi, h⟩
  · rw [List.getElem?_eq_none (by rw [List.length_take]; omega)] at h
    cases h
theorem RepOb.tr {w' : Wd} {p : Addr} {o : Ob} (hi : ∀ a, a < b → a < w.n → a < w'.n ∧ w'.i a = w.i a) (hF : ∀ p o, w.F p = some o → w'.F p = some o) (hx : w'.x = w.x) (hd : ∀ dx, H dx = some (.own p) → w.F dx = none → w'.F dx = none) (u : o.undr b = true) (r : RepOb K w H p o) : RepOb K w' H p o := by
  cases o with
  | lst xs =>
    obtain ⟨ys, h, r⟩ := r
    exact ⟨ys, h, r.tr hi hF hx u⟩
  | dct xs =>
    obtain ⟨ys, h, r⟩ := r
    exact ⟨ys, h, r.tr hi hF hx u⟩
  | ins C fs =>
    obtain ⟨dx, gs, h, d, f, r⟩ := r
    exact ⟨dx, gs, h, d, hd dx d f, r.tr hi hF hx u⟩
/-- the cells from b on dropped -/
theorem HRel.cut (h : HRel K w Bs cs H) (hb : b ∈ Bs) (hB : ∀ c ∈ Bs', c ∈ Bs ∧ c ≤ b) (hX : Bs'.xo = Bs.xo) : HRel K (w.cut b) Bs' (cs.take b) H := by
  refine ⟨by show min b w.n = _; rw [List.length_take, h.n], h.fr, h.ac, fun a o z => ?_, fun a c ha hc e => h.inj a c (by have : a < min b w.n := ha; omega) (by have : c < min b w.n := hc; omega) e, fun c hc a o ha z => h.clean c (hB c hc).1 a o ha (take_get z).2, fun c hc => ?_, by rw [hX]; exact h.xo⟩
  · obtain ⟨hab, z⟩ := take_get z
    obtain ⟨h1, h2, h3⟩ := h.cell a o z
    exact ⟨RepOb.tr (w := w) (w' := w.cut b) (b := b) (fun a ha hn => ⟨by show a < min b w.n; omega, rfl⟩) (fun _ _ e => e) rfl (fun _ _ e => e) (h.clean b hb a o hab z) h1, h2, h3⟩
  · rw [List.length_take]
    have := h.bs c (hB c hc).1
    have := (hB c hc).2
    omega
theorem RepV.cut {v : Val} {x : V} (u : v.undr b = true) (r : RepV K w v x) : RepV K (w.cut b) v x :=
  RepV.tr (w := w) (w' := w.cut b) (b := b) (fun a ha hn => ⟨by show a < min b w.n; omega, rfl⟩) (fun _ _ e => e) rfl u r
theorem RepF.cut {v : List (Str × Val)} {x : List (Str × V)} (u : Val.undrF b v = true) (r : RepF K w v x) : RepF K (w.cut b) v x :=
  RepF.tr (w := w) (w' := w.cut b) (b := b) (fun a ha hn => ⟨by show a < min b w.n; omega, rfl⟩) (fun _ _ e => e) rfl u r
end

/-! ### frozen -/
section
variable {K : Fg} {w w' : Wd} {cs : Cells} {b : Nat}
/-- a cell seen from the world behind it -/
def Sees (K : Fg) (w w' : Wd) (cs : Cells) (b : Nat) : Prop := ∀ a o, b ≤ a → cs[a]? = some o → match o with
  | .lst xs => ∃ ys, w'.F (w.i a) = some (.lst ys) ∧ RepL K w xs ys
  | .dct kvs => ∃ od ds, w'.F (w.i a) = some (.frz od (.dK ds)) ∧ RepD K w kvs ds
  | .ins C fs => ∃ dx gs, w'.F (w.i a) = some (.ins (He.ga K C) dx gs) ∧ w'.F dx = some (.own (w.i a)) ∧ RepF K w fs gs
section
variable (hi : ∀ a, a < b → a < w.n → a < w'.n ∧ w'.i a = w.i a) (hF : ∀ p o, w.F p = some o → w'.F p = some o) (hx : w'.x = w.x) (hS : Sees K w w' cs b)
include hi hF hx hS
mutual
theorem frz_rep : ∀ (n : Nat) (v v' : Val) (x : V), frz b cs n v = some v' → RepV K w v x → RepV K w' v' x
  | 0, v, v', x, e, r => by
    unfold frz at e
    split at e
    · rename_i hp
      cases e
      exact r.tr hi hF hx (pure_undr b v hp)
    · cases e
  | n + 1, v, v', x, e, r => by
    unfold frz at e
    split at e
    · rename_i hp
      cases e
      exact r.tr hi hF hx (pure_undr b v hp)
    · cases r with
      | @tup xs p ys h q =>
        have e : (frzL b cs n xs).map Val.tup = some v' := e
        cases el : frzL b cs n xs with
        | none => rw [el] at e; cases e
        | some zs =>
          rw [el] at e
          cases e
          exact .tup (sqT_mono hF h) (frzL_rep n xs zs ys el q)
      | @lst xs p ys h q =>
        have e : (frzL b cs n xs).map Val.lst = some v' := e
        cases el : frzL b cs n xs with
        | none => rw [el] at e; cases e
        | some zs =>
          rw [el] at e
          cases e
          exact .lst (hF _ _ h) (frzL_rep n xs zs ys el q)
      | @dct xs p od ys h q =>
        have e : (frzD b cs n xs).map Val.dct = some v' := e
        cases el : frzD b cs n xs with
        | none => rw [el] at e; cases e
        | some zs =>
          rw [el] at e
          cases e
          exact .dct (hF _ _ h) (frzD_rep n xs zs ys el q)
      | @obj C xs p dx ys h g q =>
        have e : (frzF b cs n xs).map (Val.obj C) = some v' := e
        cases el : frzF b cs n xs with
        | none => rw [el] at e; cases e
        | some zs =>
          rw [el] at e
          cases e
          exact .obj (hF _ _ h) (hF _ _ g) (frzF_rep n xs zs ys el q)
      | @ref a ha =>
        have e : (if a < b then some (Val.ref a) else match cs[a]? with
          | some (.lst xs) => (frzL b cs n xs).map .lst
          | some (.dct kvs) => (frzD b cs n kvs).map .dct
          | some (.ins C fs) => (frzF b cs n fs).map (.obj C)
          | none => none) = some v' := e
        by_cases hab : a < b
        · rw [if_pos hab] at e
          cases e
          obtain ⟨h1, h2⟩ := hi a hab ha
          rw [← h2]
          exact .ref h1
        · rw [if_neg hab] at e
          cases ec : cs[a]? with
          | none => rw [ec] at e; cases e
          | some o =>
            rw [ec] at e
            have hs := hS a o (by omega) ec
            cases o with
            | lst xs =>
              obtain ⟨ys, h1, q⟩ := hs
              have e : (frzL b cs n xs).map Val.lst = some v' := e
              cases el : frzL b cs n xs with
              | none => rw [el] at e; cases e
              | some zs =>
                rw [el] at e
                cases e
                exact .lst h1 (frzL_rep n xs zs ys el q)
            | dct xs =>
              obtain ⟨od, ys, h1, q⟩ := hs
              have e : (frzD b cs n xs).map Val.dct = some v' := e
              cases el : frzD b cs n xs with
              | none => rw [el] at e; cases e
              | some zs =>
                rw [el] at e
                cases e
                exact .dct h1 (frzD_rep n xs zs ys el q)
            | ins C xs =>
              obtain ⟨dx, ys, h1, h2, q⟩ := hs
              have e : (frzF b cs n xs).map (Val.obj C) = some v' := e
              cases el : frzF b cs n xs with
              | none => rw [el] at e; cases e
              | some zs =>
                rw [el] at e
                cases e
                exact .obj h1 h2 (frzF_rep n xs zs ys el q)
      | _ => cases e
theorem frzL_rep : ∀ (n : Nat) (v v' : List Val) (x : List V), frzL b cs n v = some v' → RepL K w v x → RepL K w' v' x
  | n, [], v', _, e, .nil => by
    cases n <;> (cases e; exact .nil)
  | 0, _ :: _, _, _, e, _ => nomatch e
  | n + 1, v :: vs, v', _, e, .cons h q => by
    unfold frzL at e
    cases e1 : frz b cs n v with
    | none => simp [e1] at e
    | some y =>
      cases e2 : frzL b cs n vs with
      | none => simp [e1, e2] at e
      | some ys =>
        simp only [e1, e2] at e
        cases e
        exact .cons (frz_rep n v y _ e1 h) (frzL_rep n vs ys _ e2 q)
theorem frzD_rep : ∀ (n : Nat) (v v' : List (Val × Val)) (x : List (Key × V)), frzD b cs n v = some v' → RepD K w v x → RepD K w' v' x
  | n, [], v', _, e, .nil => by
    cases n <;> (cases e; exact .nil)
  | 0, _ :: _, _, _, e, _ => nomatch e
  | n + 1, (k, v) :: vs, v', _, e, .cons hk h q => by
    unfold frzD at e
    cases e0 : k.pure with
    | false => simp [e0] at e
    | true =>
      cases e1 : frz b cs n v with
      | none => simp [e1] at e
      | some y =>
        cases e2 : frzD b cs n vs with
        | none => simp [e1, e2] at e
        | some ys =>
          simp only [e0, e1, e2] at e
          cases e
          exact .cons hk (frz_rep n v y _ e1 h) (frzD_rep n vs ys _ e2 q)
theorem frzF_rep : ∀ (n : Nat) (v v' : List (Str × Val)) (x : List (Str × V)), frzF b cs n v = some v' → RepF K w v x → RepF K w' v' x
  | n, [], v', _, e, .nil => by
    cases n <;> (cases e; exact .nil)
  | 0, _ :: _, _, _, e, _ => nomatch e
  | n + 1, (k, v) :: vs, v', _, e, .cons h q => by
    unfold frzF at e
    cases e1 : frz b cs n v with
    | none => simp [e1] at e
    | some y =>
      cases e2 : frzF b cs n vs with
      | none => simp [e1, e2] at e
      | some ys =>
        simp only [e1, e2] at e
        cases e
        exact .cons (frz_rep n v y _ e1 h) (frzF_rep n vs ys _ e2 q)
end
end
end

/-! ### dicts locked -/
section
variable {X : Cx} {w : Wd} {Bs Bs' : BX} {cs : Cells} {H : Hp} {b : Nat} {pins : List (Addr × Obj)} {σ : L2.St} {s : Shared}
/-- the dicts of the cells from b to k locked -/
structure Lkd (w : Wd) (cs : Cells) (b k : Nat) (H H' : Hp) : Prop where
  out : ∀ p, (∀ a, b ≤ a → a < k → (∃ kvs, cs[a]? = some (.dct kvs)) → w.i a ≠ p) → H' p = H p
  in_ : ∀ a, b ≤ a → a < k → (∃ kvs, cs[a]? = some (.dct kvs)) → ∃ od ds, H (w.i a) = some (.dK ds) ∧ H' (w.i a) = some (.frz od (.dK ds))
theorem lock_all (hh : HRel X.K w Bs cs H) (I : Inv X pins σ H s) : ∀ k, k ≤ cs.length → ∃ H', Inv X pins σ H' s ∧ Lkd w cs b k H H'
  | 0, _ => ⟨H, I, fun _ _ => rfl, fun a _ h => absurd h (Nat.not_lt_zero _)⟩
  | k + 1, hk => by
    obtain ⟨H1, I1, L⟩ := lock_all hh I k (by omega)
    by_cases hd : b ≤ k ∧ ∃ kvs, cs[k]? = some (.dct kvs)
    · obtain ⟨hb, kvs, e⟩ := hd
      obtain ⟨ds, h1, _⟩ := (hh.cell k _ e).1
      have hk' : k < w.n := hh.lt e
      have hne : ∀ a, a < k → w.i a ≠ w.i k := fun a ha z => by
        have := hh.inj a k (by omega) hk' z
        omega
      have h2 : H1 (w.i k) = some (.dK ds) := by
        rw [L.out _ fun a _ ha _ => hne a ha]
        exact h1
      obtain ⟨od, I2⟩ := I1.lock h2 trivial
      refine ⟨_, I2, fun p hp => ?_, fun a hba ha hc => ?_⟩
      · rw [upd_ne (fun z => hp k hb (Nat.lt_succ_self _) ⟨kvs, e⟩ z.symm)]
        exact L.out p fun a h1 h2 h3 => hp a h1 (by omega) h3
      · by_cases hak : a = k
        · subst hak
          exact ⟨od, ds, h1, upd_same⟩
        · obtain ⟨od', ds', g1, g2⟩ := L.in_ a hba (by omega) hc
          exact ⟨od', ds', g1, by rw [upd_ne (hne a (by omega))]; exact g2⟩
    · refine ⟨H1, I1, fun p hp => L.out p fun a h1 h2 h3 => hp a h1 (by omega) h3, fun a hba ha hc => ?_⟩
      by_cases hak : a = k
      · subst hak
        exact absurd ⟨hba, hc⟩ hd
      · exact L.in_ a hba (by omega) hc
open Classical in
/-- the world behind: the cells from b on are frozen -/
noncomputable def Wd.frzn (w : Wd) (b : Nat) (H' : Hp) : Wd :=
  { w with n := min b w.n, F := fun p => if (w.F p).isSome = true then w.F p else if ∃ a, b ≤ a ∧ a < w.n ∧ (w.i a = p ∨ H' p = some (.own (w.i a))) then H' p else none }
open Classical in
theorem Wd.frzn_F {H' : Hp} {p : Addr} {o : HO} (h : w.F p = some o) : (w.frzn b H').F p = some o := by
  show (if (w.F p).isSome = true then w.F p else _) = _
  rw [h]
  rfl
open Classical in
theorem Wd.frzn_cell {H' : Hp} {p : Addr} {a : Nat} (h : w.F p = none) (h1 : b ≤ a) (h2 : a < w.n) (h3 : w.i a = p ∨ H' p = some (.own (w.i a))) : (w.frzn b H').F p = H' p := by
  show (if (w.F p).isSome = true then w.F p else _) = _
  rw [h]
  show (if _ then H' p else none) = _
  rw [if_pos ⟨a, h1, h2, h3⟩]
open Classical in
theorem Wd.frzn_none {H' : Hp} {p : Addr} (h : w.F p = none) (h1 : ∀ a, b ≤ a → a < w.n → w.i a ≠ p ∧ H' p ≠ some (.own (w.i a))) : (w.frzn b H').F p = none := by
  show (if (w.F p).isSome = true then w.F p else _) = _
  rw [h]
  show (if _ then H' p else none) = _
  rw [if_neg]
  rintro ⟨a, h2, h3, h4⟩
  rcases h4 with h4 | h4
  · exact (h1 a h2 h3).1 h4
  · exact (h1 a h2 h3).2 h4
theorem cell_not_own {u : HO} {q : Addr} (h : cellHO u = true) : u ≠ .own q := fun z => by
  rw [z] at h
  cases h
open Classical in
theorem HRel.frzn {H' : Hp} (h : HRel X.K w Bs cs H) (L : Lkd w cs b cs.length H H') (hb : b ∈ Bs) (hB : ∀ c ∈ Bs', c ∈ Bs ∧ c ≤ b) (hX : Bs'.xo = Bs.xo) : (w.cut b).le (w.frzn b H') ∧ HRel X.K (w.frzn b H') Bs' (cs.take b) H' ∧ Sees X.K w (w.frzn b H') cs b := by
  have hcell : ∀ a, a < w.n → ∃ o u, cs[a]? = some o ∧ H (w.i a) = some u ∧ cellHO u = true ∧ w.F (w.i a) = none ∧ w.A (w.i a) = none := fun a ha => by
    have hl : a < cs.length := by rw [← h.n]; exact ha
    obtain ⟨h1, h2, h3⟩ := h.cell a cs[a] (List.getElem?_eq_getElem hl)
    obtain ⟨u, h4, h5⟩ := h1.kind
    exact ⟨_, u, List.getElem?_eq_getElem hl, h4, h5, h2, h3⟩
  -- what is no cell from b on stays
  have hout : ∀ p, (∀ a, b ≤ a → a < w.n → w.i a ≠ p) → H' p = H p := fun p hp => L.out p fun a h1 h2 _ => hp a h1 (by rw [h.n]; exact h2)
  have hlow : ∀ a, a < b → a < w.n → H' (w.i a) = H (w.i a) := fun a ha hn => hout _ fun c h1 h2 z => by
    have := h.inj c a h2 hn z
    omega
  have hF : ∀ p o, w.F p = some o → H' p = some o := fun p o e => by
    rw [hout p fun a _ h2 z => by
      obtain ⟨_, _, _, _, _, h4, _⟩ := hcell a h2
      rw [z, e] at h4
      cases h4]
    exact h.fr p o e
  refine ⟨⟨Nat.le_refl _, fun _ _ => rfl, fun p o e => Wd.frzn_F e, fun _ _ e => e, rfl⟩, ⟨by show min b w.n = _; rw [List.length_take, h.n], fun p o e => ?_, fun p o e => ?_, fun a o z => ?_, fun a c ha hc e => h.inj a c (by have : a < min b w.n := ha; omega) (by have : c < min b w.n := hc; omega) e, fun c hc a o ha z => h.clean c (hB c hc).1 a o ha (take_get z).2, fun c hc => ?_, by rw [hX]; exact h.xo⟩, fun a o hba z => ?_⟩
  · have e : (if (w.F p).isSome = true then w.F p else if ∃ a, b ≤ a ∧ a < w.n ∧ (w.i a = p ∨ H' p = some (.own (w.i a))) then H' p else none) = some o := e
    split at e
    · exact hF p o e
    · split at e
      · exact e
      · cases e
  · obtain ⟨h1, h2, h3⟩ := h.ac p o e
    have hp : ∀ a, a < w.n → w.i a ≠ p := fun a ha z => by
      obtain ⟨_, _, _, _, _, _, h5⟩ := hcell a ha
      rw [z] at h5
      have e : w.A p = some o := e
      rw [h5] at e
      cases e
    have hp' : H' p = some o := by
      rw [hout p fun a _ h2 => hp a h2]
      exact h1
    exact ⟨hp', Wd.frzn_none h2 fun a _ h2 => ⟨hp a h2, fun z => by
      rw [hp'] at z
      cases z
      cases h3⟩, h3⟩
  · obtain ⟨hab, z⟩ := take_get z
    obtain ⟨h1, h2, h3⟩ := h.cell a o z
    have ha := h.lt z
    obtain ⟨u, hu, ku⟩ := h1.kind
    refine ⟨?_, Wd.frzn_none h2 fun c h4 h5 => ⟨fun y => by
      have := h.inj c a h5 ha y
      omega, fun y => by
      have y : H' (w.i a) = some (.own (w.i c)) := y
      rw [hlow a hab ha, hu] at y
      cases y
      cases ku⟩, h3⟩
    have r := RepOb.tr (w := w) (w' := w.frzn b H') (b := b) (fun a ha hn => ⟨by show a < min b w.n; omega, rfl⟩) (fun p o e => Wd.frzn_F e) rfl (fun dx d f => Wd.frzn_none f fun c h4 h5 => ⟨fun y => by
      obtain ⟨_, u', _, h6, h7, _, _⟩ := hcell c h5
      rw [y, d] at h6
      cases h6
      exact (nomatch h7), fun y => by
      rw [hout dx fun e h8 h9 y => by
        obtain ⟨_, u', _, h6, h7, _, _⟩ := hcell e h9
        rw [y, d] at h6
        cases h6
        exact (nomatch h7), d] at y
      have := h.inj a c ha h5 (HO.own.inj (Option.some.inj y))
      omega⟩) (h.clean b hb a o hab z) h1
    have hdx : ∀ dx, H dx = some (.own (w.i a)) → H' dx = H dx := fun dx d => hout dx fun e h8 h9 y => by
      obtain ⟨_, u', _, h6, h7, _, _⟩ := hcell e h9
      rw [y, d] at h6
      cases h6
      cases h7
    cases o with
    | lst xs =>
      obtain ⟨ys, q, r⟩ := r
      exact ⟨ys, (hlow a hab ha).trans q, r⟩
    | dct xs =>
      obtain ⟨ys, q, r⟩ := r
      exact ⟨ys, (hlow a hab ha).trans q, r⟩
    | ins C fs =>
      obtain ⟨dx, gs, q, d, f, r⟩ := r
      exact ⟨dx, gs, (hlow a hab ha).trans q, (hdx dx d).trans d, f, r⟩
  · rw [List.length_take]
    have := h.bs c (hB c hc).1
    have := (hB c hc).2
    omega
  · obtain ⟨h1, h2, h3⟩ := h.cell a o z
    have ha := h.lt z
    have hal : a < cs.length := by rw [← h.n]; exact ha
    have hself : ∀ c, c < w.n → w.i c = w.i a → c = a := fun c hc e => h.inj c a hc ha e
    cases o with
    | lst xs =>
      obtain ⟨ys, q, r⟩ := h1
      refine ⟨ys, ?_, r⟩
      rw [Wd.frzn_cell h2 hba ha (.inl rfl), L.out _ fun c h4 h5 h6 y => ?_]
      · exact q
      · have := hself c (by rw [h.n]; exact h5) y
        subst this
        obtain ⟨kvs, h6⟩ := h6
        rw [z] at h6
        cases h6
    | dct xs =>
      obtain ⟨ys, q, r⟩ := h1
      obtain ⟨od, ds, g1, g2⟩ := L.in_ a hba hal ⟨xs, z⟩
      rw [q] at g1
      cases g1
      exact ⟨od, ys, by rw [Wd.frzn_cell h2 hba ha (.inl rfl)]; exact g2, r⟩
    | ins C fs =>
      obtain ⟨dx, gs, q, d, f, r⟩ := h1
      have hdx : H' dx = some (.own (w.i a)) := by
        rw [hout dx fun e h8 h9 y => by
          obtain ⟨_, u', _, h6, h7, _, _⟩ := hcell e h9
          rw [y, d] at h6
          cases h6
          cases h7]
        exact d
      refine ⟨dx, gs, ?_, by rw [Wd.frzn_cell f hba ha (.inr hdx)]; exact hdx, r⟩
      rw [Wd.frzn_cell h2 hba ha (.inl rfl), L.out _ fun c h4 h5 h6 y => ?_]
      · exact q
      · have := hself c (by rw [h.n]; exact h5) y
        subst this
        obtain ⟨kvs, h6⟩ := h6
        rw [z] at h6
        cases h6
end

/-! ### return -/
structure Fr.Ok (f : Fr) : Prop where
  mem : f.base ∈ f.Bs
  top : ∀ b ∈ f.Bs, b ≤ f.base
theorem Fr.rB_ok {f : Fr} (h : f.Ok) (k : f.keep = false) : ∀ c ∈ f.rB, c ∈ f.Bs ∧ c ≤ f.base := fun c hc => by
  unfold Fr.rB at hc
  rw [k] at hc
  have hc : c ∈ (⟨f.Bs.l.tail, f.Bs.xo⟩ : BX) := by simpa using hc
  have : c ∈ f.Bs := List.mem_of_mem_tail (show c ∈ f.Bs.l.tail from hc)
  exact ⟨this, h.top c this⟩
theorem Fr.rB_xo {f : Fr} : f.rB.xo = f.Bs.xo := by
  unfold Fr.rB
  split <;> rfl
section
variable {X : Cx} {f : Fr} {W : WX} {G : Gl} {cl : CallF} {pos : Pos} {e : Expr} {c : E}
theorem sd_ret (hf : f.Ok) (he : PE X e (TV X f.Bs W (evE G cl f.base c))) : PS X (.Return (some e) pos) (TM1 X f W G cl (.ret c)) := by
  by_cases k : f.keep = true
  · refine PS.imp (ps_ret he) fun D σ H h => TSm.ofR (k := fun s v cs => if f.keep = true then SR.rt v cs else SR.ofO (frz f.base cs frzN v) fun v => .rt v (cs.take f.base)) h fun w s a x cs H' hs hh r run => ?_
    rw [if_pos k] at run
    refine run w x H' ?_ ?_ r
    · unfold Fr.rw
      rw [if_pos k]
      exact .rfl
    · unfold Fr.rB
      rw [if_pos k]
      exact hh
  · have kf : f.keep = false := by simpa using k
    have he2 : PE X e (fun σ H Q => TV X f.Bs W (evE G cl f.base c) σ H fun x H1 => ∃ w cs v v', HRel X.K w f.Bs cs H1 ∧ RepV X.K w v x ∧ frz f.base cs frzN v = some v' ∧
        ∀ w' H', (w.cut f.base).le w' → HRel X.K w' f.rB (cs.take f.base) H' → RepV X.K w' v' x → Q x H') := by
      refine ⟨fun pins s σ H Q I hq => thn (he.run pins s σ H _ I hq) fun u s1 ⟨x, H1, I1, r1, w, cs, v, v', hh, rv, ez, q⟩ => ?_⟩
      obtain ⟨H2, I2, L⟩ := lock_all (b := f.base) hh I1 cs.length (Nat.le_refl _)
      obtain ⟨l, hh2, sees⟩ := hh.frzn L hf.mem (Fr.rB_ok hf kf) Fr.rB_xo
      exact ⟨x, H2, I2, r1, q _ H2 l hh2 (frz_rep (w := w) (w' := w.frzn f.base H2) (fun a ha hn => ⟨by show a < min f.base w.n; omega, rfl⟩) (fun p o e => Wd.frzn_F e) rfl sees _ v v' x ez rv)⟩
    refine PS.imp (ps_ret he2) fun D σ H h => TSm.ofR (k := fun s v cs => if f.keep = true then SR.rt v cs else SR.ofO (frz f.base cs frzN v) fun v => .rt v (cs.take f.base)) h fun w s a x cs H' hs hh r run => ?_
    rw [if_neg k] at run
    obtain ⟨v', ez, run⟩ := run.ofO
    refine ⟨w, cs, a, v', hh, r, ez, fun w' H2 l hh2 r2 => run w' x H2 ?_ hh2 r2⟩
    unfold Fr.rw
    rw [if_neg k]
    exact l
theorem sd_retN (hf : f.Ok) : PS X (.Return none pos) (TM1 X f W G cl .retN) := by
  refine PS.imp ps_retN fun D σ H ⟨w, s, cs, hs, hh, hr⟩ => ?_
  have hr : RunS X.K f W w D (.rt .non (if f.keep = true then cs else cs.take f.base)) := hr
  by_cases k : f.keep = true
  · rw [if_pos k] at hr
    refine hr w .non H ?_ ?_ .non
    · unfold Fr.rw
      rw [if_pos k]
      exact .rfl
    · unfold Fr.rB
      rw [if_pos k]
      exact hh
  · rw [if_neg k] at hr
    have kf : f.keep = false := by simpa using k
    refine hr (w.cut f.base) .non H ?_ (hh.cut hf.mem (Fr.rB_ok hf kf) Fr.rB_xo) .non
    unfold Fr.rw
    rw [if_neg k]
    exact .rfl
end
end EV
/-! SdH: a def's body keeps what the evaluator says of its call. -/
namespace EV
open PySem PySem.Spec PyProof.Rows L2

abbrev WE (E : XK) : WX := fun c d _ H => E c d H
/-- what calls promise: k is the room they want -/
def CallsOk (P : Program) (w : World) (K : Fg) (mg : Str → Option Value) (base : Heap) (G : Gl) (fd : Str → FuncData) (k : Nat) (cl : CallF) : Prop :=
  ∀ (nm : Str) (d : Def), G.defs.lookup nm = some d → ∀ (A : Around) (outer : List Env) (s : Shared) (H : Hp) (args : Args) (us : List Value) (xs : List V) (vs : List Val) (Q : VK) (E : XK) (wd : Wd) (cs : Cells) (f : Fr),
    Room k A → A.guards = some [] → Env0 P w K mg base A outer s H → BindsTo s (fd nm) args (d.ps.zip us) → Vals xs us → HRel K wd f.Bs cs H → RepL K wd vs xs → f.Ok → vs.length = d.ps.length →
    Run K f.Bs (rV K) (WE E) [] wd Q (cl nm vs f.base cs) → codeAny (model P w) A (.call (.ref (He.fAd K d.at_)) args) (CR (CX P w) outer P w H s Q E) s
/-- the state of a body's context -/
structure Good (G : Gl) (cl : CallF) (fd : Str → FuncData) (X : Cx) (W : WX) (f : Fr) (k : Nat) : Prop where
  hN : X.N.Nodup
  hf : f.Ok
  calm : X.calm = true
  room : Room (k + 1) X.A
  gd : X.A.guards = some []
  tk : Takes X W
  po : PassesOwn (model X.prog X.w) X.A X.env X.xe
  call : CallsOk X.prog X.w X.K X.mg X.base G fd k cl
/-- .. of a def's own body -/
structure GoodF (G : Gl) (cl : CallF) (fd : Str → FuncData) (X : Cx) (W : WX) (f : Fr) (k : Nat) : Prop extends Good G cl fd X W f k where
  stk : X.stack = X.env :: X.outer
  fra : X.env.frame = some X.env.locals
section
variable {P : Program} {w : World} {K : Fg} {mg : Str → Option Value} {base : Heap} {G : Gl} {fdm : Str → FuncData} {k : Nat} {cl : CallF}
mutual
theorem rep_undr {wd : Wd} : ∀ {v : Val} {x : V}, RepV K wd v x → v.undr wd.n = true
  | _, _, .non => rfl
  | _, _, .bl b => rfl
  | _, _, .int i => rfl
  | _, _, .str s => rfl
  | _, _, .tup h r => rep_undrL r
  | _, _, .lst h r => rep_undrL r
  | _, _, .scr h => rfl
  | _, _, .dct h r => rep_undrD r
  | _, _, .obj h g r => rep_undrF r
  | .ref a, _, .ref h => Nat.ble_eq_true_of_le h
  | _, _, .glo x => rfl
  | _, _, .exn0 h => rfl
  | _, _, .exn h g r => rep_undrF r
theorem rep_undrL {wd : Wd} : ∀ {v : List Val} {x : List V}, RepL K wd v x → Val.undrL wd.n v = true
  | _, _, .nil => rfl
  | .cons v vs, _, .cons h r => by
    show (v.undr wd.n && Val.undrL wd.n vs) = true
    rw [rep_undr h, rep_undrL r]
    rfl
theorem rep_undrD {wd : Wd} : ∀ {v : List (Val × Val)} {x : List (Key × V)}, RepD K wd v x → Val.undrD wd.n v = true
  | _, _, .nil => rfl
  | .cons (k, v) vs, _, .cons hk h r => by
    show (k.undr wd.n && (v.undr wd.n && Val.undrD wd.n vs)) = true
    rw [rep_undr h, rep_undrD r]
    cases k <;> first | rfl | cases hk
theorem rep_undrF {wd : Wd} : ∀ {v : List (Str × Val)} {x : List (Str × V)}, RepF K wd v x → Val.undrF wd.n v = true
  | _, _, .nil => rfl
  | .cons (k, v) vs, _, .cons h r => by
    show (v.undr wd.n && Val.undrF wd.n vs) = true
    rw [rep_undr h, rep_undrF r]
    rfl
end
theorem RepOb.undr {wd : Wd} {H : Hp} {p : Addr} {o : Ob} (r : RepOb K wd H p o) : o.undr wd.n = true := by
  cases o with
  | lst xs => obtain ⟨_, _, r⟩ := r; exact rep_undrL r
  | dct xs => obtain ⟨_, _, r⟩ := r; exact rep_undrD r
  | ins C fs => obtain ⟨_, _, _, _, _, r⟩ := r; exact rep_undrF r
theorem repF_cut {wd : Wd} {b : Nat} {e : Exn} {c : Value} {d : Option Addr} (hp : Val.pureF e.fs = true) (r : RepX K wd e c d) : RepX K (wd.cut b) e c d := by
  obtain ⟨h1, h2⟩ := r
  refine ⟨h1, ?_⟩
  rcases h2 with h2 | ⟨dd, gs, h2, h3, h4⟩
  · exact .inl h2
  · exact .inr ⟨dd, gs, h2, h3, h4.cut (pureF_undr b _ hp)⟩
theorem start_rel {wd : Wd} {N : List Str} {vs : List Val} {xs : List V} {n : Nat} (hn : N.length = n) (r : RepL K wd vs xs) : SRel K wd (vs.map some ++ List.replicate (n - vs.length) none) (L2.start N xs) := by
  have hl := r.length
  refine ⟨?_, fun i v e => ?_⟩
  · unfold L2.start
    rw [List.length_append, List.length_append, List.length_map, List.length_map, List.length_replicate, List.length_replicate, hl, hn]
  · by_cases hi : i < vs.length
    · rw [List.getElem?_append_left (by rw [List.length_map]; exact hi), List.getElem?_map] at e
      cases ev : vs[i]? with
      | none => rw [ev] at e; cases e
      | some u =>
        rw [ev] at e
        cases e
        obtain ⟨b, h1, h2⟩ := r.get ev
        refine ⟨b, ?_, h2⟩
        unfold L2.start
        rw [List.getElem?_append_left (by rw [List.length_map, ← hl]; exact hi), List.getElem?_map, h1]
        rfl
    · rw [List.getElem?_append_right (by rw [List.length_map]; omega), List.getElem?_replicate] at e
      split at e <;> cases e
/-- a def run -/
theorem def_ok {nm : Str} {d : Def} {N : List Str} {x qual : Str} {params : Arguments} {body : List Stmt} {scope : Scope} {dvs : List V} {kws : List (Str × V)} (F : FunD K x qual params body scope dvs kws (He.fAd K d.at_) (fdm nm)) (S : FnScope N d.ps scope) (hn : N.length = d.n)
    (hcl : CallsOk P w K mg base G fdm k cl)
    (hbody : ∀ (X : Cx) (W : WX) (f : Fr), X.prog = P → X.w = w → X.K = K → X.mg = mg → X.base = base → X.N = N → X.env.scope = scope → (∀ x, X.fn x = true) → f.keep = d.keep → GoodF G cl fdm X W f k → PSs X body (TM X f W G cl d.body))
    (A : Around) (outer : List Env) (s : Shared) (H : Hp) (args : Args) (us : List Value) (xs : List V) (vs : List Val) (Q : VK) (E : XK) (wd : Wd) (cs : Cells) (f : Fr) (hr : Room (k + 2) A) (hgd : A.guards = some []) (e0 : Env0 P w K mg base A outer s H) (hb : BindsTo s (fdm nm) args (d.ps.zip us))
    (r : Vals xs us) (hh : HRel K wd f.Bs cs H) (rv : RepL K wd vs xs) (hf : f.Ok) (hlen : vs.length = d.ps.length) (run : Run K f.Bs (rV K) (WE E) [] wd Q (runD G cl d vs f.base cs)) :
    codeAny (model P w) A (.call (.ref (He.fAd K d.at_)) args) (CR (CX P w) outer P w H s Q E) s := by
  obtain ⟨oc, od, dV, kV, doc, pm, an, cdv, ct, osl, efd, lk, hcd, _, _⟩ := F.ex
  have KX : K.In s.heap := e0.mod.kin.keeps fun b o e => (e0.bs b o e).1
  have lim : s.heap.NoLimit := e0.mod.nolimit.keeps fun b o e => (e0.bs b o e).1
  have hl : xs.length = d.ps.length := by rw [← rv.length]; exact hlen
  have hkind : ∀ y ∈ d.ps.zip us, scope.names.lookup y.1 = some .local ∨ (scope.names.lookup y.1 = some .cell ∧ ((cellsFrom (s.heap.objs.size + 1) scope.names []).lookup y.1).isSome = true) := fun ⟨n, v⟩ hy =>
    (S.par n (List.of_mem_zip hy).1).imp id fun q => ⟨q, PySem.W.cellsFrom_some _ _ _ (.inl q)⟩
  rw [efd] at lk hb
  refine codeAny_call_function hr.depth (KX _ _ lk) rfl S.co S.gen rfl (PySem.W.codeRec_of KX hcd) (hb _ _ _ _ ?_)
  refine wpAny_newFunctionEnv_cells S.kind hkind fun env he s1 x => ?_
  subst he
  refine ⟨lim.keeps x.toInCall.keep, codeAny_func ?_⟩
  have I : Inv (cxOf (CX P w) P w K mg base N qual scope (He.fAd K d.at_) cdv A outer s H E) [] (L2.start N xs) H s1 := inv_start S hr.hd e0 hl r x
  have hgood : GoodF G cl fdm (cxOf (CX P w) P w K mg base N qual scope (He.fAd K d.at_) cdv A outer s H E) (WE E) ⟨d.keep, if d.keep = true then f.base else cs.length, if d.keep = true then f.Bs else ⟨cs.length :: f.Bs.l, f.Bs.xo⟩⟩ k :=
    { hN := S.nd
      hf := by
        cases d.keep with
        | true => exact ⟨hf.mem, hf.top⟩
        | false => exact ⟨show cs.length ∈ cs.length :: f.Bs.l from List.mem_cons_self, fun b hb => by
            have hb : b ∈ cs.length :: f.Bs.l := hb
            rcases List.mem_cons.mp hb with z | z
            · rw [z]; exact Nat.le_refl _
            · exact hh.bs b z⟩
      calm := rfl
      room := hr.deeper _
      gd := hgd
      tk := takes_of rfl rfl rfl rfl
      po := passes_of rfl
      call := hcl
      stk := rfl
      fra := rfl }
  have hps := hbody _ _ _ rfl rfl rfl rfl rfl rfl rfl (fun _ => rfl) rfl hgood
  have fin : ∀ {σ' : L2.St} {H' : Hp} {v : V} {u : Value} {s' : Shared}, Inv (cxOf (CX P w) P w K mg base N qual scope (He.fAd K d.at_) cdv A outer s H E) [] σ' H' s' → RelV v u → Q v H' → CE outer P w H s Q u s' :=
    fun {σ' H' v u s'} J rv q => ⟨v, H', J.os, J.bare, J.base, J.hok, rv, q⟩
  refine wpAny_mono (hps.run [] s1 (L2.start N xs) H { nx := fun _ H' => Q .non H', rt := Q } I ⟨wd, _, cs, start_rel hn rv, ?_, ?_⟩) (fun fl s' hs => ?_) fun e s' hs => hs
  · cases hk : d.keep with
    | true =>
      simp only [if_true]
      exact hh
    | false =>
      refine ⟨hh.n, hh.fr, hh.ac, hh.cell, hh.inj, fun b hb a o ha z => ?_, fun b hb => ?_, hh.xo⟩
      · simp only [Bool.false_eq_true, if_false] at hb
        rcases List.mem_cons.mp hb with y | y
        · rw [y, ← hh.n]
          exact (hh.cell a o z).1.undr
        · exact hh.clean b y a o ha z
      · simp only [Bool.false_eq_true, if_false] at hb
        rcases List.mem_cons.mp hb with y | y
        · rw [y]; exact Nat.le_refl _
        · exact hh.bs b y
  · have run : Run K f.Bs (rV K) (WE E) [] wd Q (if vs.length = d.ps.length then
        match evSs G cl (if d.keep = true then f.base else cs.length) d.keep d.body (vs.map some ++ List.replicate (d.n - vs.length) none) cs with
        | .rt v cs => .ok v cs
        | .nx _ cs1 => .ok .non (if d.keep = true then cs1 else cs1.take (if d.keep = true then f.base else cs.length))
        | .exc x _ cs1 => R.iff (Val.pureF x.fs) (.exc x (if d.keep = true then cs1 else cs1.take (if d.keep = true then f.base else cs.length)))
        | _ => .bad
      else .bad) := run
    rw [if_pos hlen] at run
    have hret : ∀ w1 : Wd, (Fr.rw ⟨d.keep, if d.keep = true then f.base else cs.length, if d.keep = true then f.Bs else ⟨cs.length :: f.Bs.l, f.Bs.xo⟩⟩ wd).le w1 → wd.le w1 := fun w1 l => by
      unfold Fr.rw at l
      cases hk : d.keep with
      | true => rw [hk] at l; exact l
      | false =>
        rw [hk] at l
        simp only [Bool.false_eq_true, if_false] at l
        have hm : min cs.length wd.n = wd.n := by rw [hh.n]; exact Nat.min_self _
        have l2 : Wd.le { wd with n := min cs.length wd.n } w1 := l
        rw [hm] at l2
        exact l2
    have hrb : Fr.rB ⟨d.keep, if d.keep = true then f.base else cs.length, if d.keep = true then f.Bs else ⟨cs.length :: f.Bs.l, f.Bs.xo⟩⟩ = f.Bs := by
      unfold Fr.rB
      cases d.keep <;> rfl
    have hB : ∀ c ∈ f.Bs, c ∈ (⟨cs.length :: f.Bs.l, f.Bs.xo⟩ : BX) ∧ c ≤ cs.length := fun c hc => ⟨show c ∈ cs.length :: f.Bs.l from List.mem_cons_of_mem _ hc, hh.bs c hc⟩
    have hmem : cs.length ∈ (⟨cs.length :: f.Bs.l, f.Bs.xo⟩ : BX) := show cs.length ∈ cs.length :: f.Bs.l from List.mem_cons_self
    have hcl : ∀ w1, wd.le w1 → wd.le (w1.cut cs.length) := fun w1 l => ⟨by show wd.n ≤ min cs.length w1.n; have := l.n; have := hh.n; omega, l.i, l.F, l.A, l.x⟩
    show RunS K _ (WE E) wd _ (evSs G cl (if d.keep = true then f.base else cs.length) d.keep d.body (vs.map some ++ List.replicate (d.n - vs.length) none) cs)
    cases eb : evSs G cl (if d.keep = true then f.base else cs.length) d.keep d.body (vs.map some ++ List.replicate (d.n - vs.length) none) cs with
    | rt v cs1 =>
      rw [eb] at run
      intro w1 z H1 l hh1 r1
      rw [hrb] at hh1
      exact run w1 z H1 (hret w1 l) hh1 r1
    | nx s1 cs1 =>
      rw [eb] at run
      intro w1 σ1 H1 l hs1 hh1
      cases hk : d.keep with
      | true =>
        rw [hk] at run hh1
        exact run w1 _ H1 l hh1 .non
      | false =>
        rw [hk] at run hh1
        exact run (w1.cut cs.length) _ H1 (hcl w1 l) (HRel.cut (Bs := ⟨cs.length :: f.Bs.l, f.Bs.xo⟩) hh1 hmem hB rfl) .non
    | exc e s1 cs1 =>
      rw [eb] at run
      obtain ⟨hp, run⟩ := Run.iff_ run
      intro w1 σ1 H1 c dd l hs1 hh1 rx
      cases hk : d.keep with
      | true =>
        rw [hk] at run hh1
        exact run w1 H1 c dd l hh1 rx
      | false =>
        rw [hk] at run hh1
        exact run (w1.cut cs.length) H1 c dd (hcl w1 l) (HRel.cut (Bs := ⟨cs.length :: f.Bs.l, f.Bs.xo⟩) hh1 hmem hB rfl) (repF_cut hp rx)
    | bk s1 cs1 => rw [eb] at run; exact run.elim
    | ct s1 cs1 => rw [eb] at run; exact run.elim
    | bad => rw [eb] at run; exact run.elim
  · cases fl with
    | ret u =>
      obtain ⟨v, σ', H', J, rv, q⟩ := hs
      exact fin J rv q
    | next =>
      obtain ⟨σ', H', J, q⟩ := hs
      exact fin (v := V.non) (u := Value.none) J rfl q
    | brk =>
      obtain ⟨_, _, _, q⟩ := hs
      exact False.elim q
    | cont =>
      obtain ⟨_, _, _, q⟩ := hs
      exact False.elim q
end
end EV
/-! Bi: arguments bound. -/
namespace EV
open PySem PySem.Spec PyProof.Rows L2

section
variable {α β : Type} {R : α → β → Prop}
theorem zip_rel : ∀ {ps : List Str} {vs : List α} {us : List β} (k : Str), Paired R vs us → ((ps.zip vs).lookup k = none ∧ (ps.zip us).lookup k = none) ∨ ∃ a b, (ps.zip vs).lookup k = some a ∧ (ps.zip us).lookup k = some b ∧ R a b
  | [], _, _, k, _ => .inl ⟨rfl, rfl⟩
  | p :: ps, _, _, k, .nil => .inl ⟨rfl, rfl⟩
  | p :: ps, _, _, k, .cons h t => by
    rw [List.zip_cons_cons, List.zip_cons_cons, List.lookup_cons, List.lookup_cons]
    cases e : k == p with
    | true => exact .inr ⟨_, _, rfl, rfl, h⟩
    | false => exact zip_rel k t
theorem lookup_app {k : Str} {γ : Type} : ∀ (l m : List (Str × γ)), (l ++ m).lookup k = (l.lookup k).or (m.lookup k)
  | [], m => by simp
  | (x, v) :: l, m => by
    rw [List.cons_append, List.lookup_cons, List.lookup_cons]
    cases e : k == x with
    | true => rfl
    | false => exact lookup_app l m
theorem given_rel {ps : List Str} {vs : List α} {us : List β} {ks : List Str} {kvs : List α} {ws : List β} {qs : List Str} {ds : List α} {es : List β} (k : Str) (hv : Paired R vs us) (hk : Paired R kvs ws) (hd : Paired R ds es) :
    ((ps.zip vs ++ ks.zip kvs ++ qs.zip ds).lookup k = none ∧ (ps.zip us ++ ks.zip ws ++ qs.zip es).lookup k = none) ∨
      ∃ a b, (ps.zip vs ++ ks.zip kvs ++ qs.zip ds).lookup k = some a ∧ (ps.zip us ++ ks.zip ws ++ qs.zip es).lookup k = some b ∧ R a b := by
  rw [lookup_app, lookup_app, lookup_app, lookup_app]
  rcases zip_rel (ps := ps) k hv with ⟨h1, h2⟩ | ⟨a, b, h1, h2, h3⟩
  · rw [h1, h2]
    rcases zip_rel (ps := ks) k hk with ⟨h1, h2⟩ | ⟨a, b, h1, h2, h3⟩
    · rw [h1, h2]
      rcases zip_rel (ps := qs) k hd with ⟨h1, h2⟩ | ⟨a, b, h1, h2, h3⟩
      · rw [h1, h2]
        exact .inl ⟨rfl, rfl⟩
      · rw [h1, h2]
        exact .inr ⟨a, b, rfl, rfl, h3⟩
    · rw [h1, h2]
      exact .inr ⟨a, b, rfl, rfl, h3⟩
  · rw [h1, h2]
    exact .inr ⟨a, b, rfl, rfl, h3⟩
theorem lookAll_rel {g : List (Str × α)} {g' : List (Str × β)} (h : ∀ k, (g.lookup k = none ∧ g'.lookup k = none) ∨ ∃ a b, g.lookup k = some a ∧ g'.lookup k = some b ∧ R a b) : ∀ {ps : List Str} {xs : List α}, lookAll g ps = some xs → ∃ ys, lookAll g' ps = some ys ∧ Paired R xs ys
  | [], xs, e => by
    cases e
    exact ⟨[], rfl, .nil⟩
  | p :: ps, xs, e => by
    unfold lookAll at e ⊢
    rcases h p with ⟨h1, h2⟩ | ⟨a, b, h1, h2, h3⟩
    · rw [h1] at e
      cases e
    · rw [h1] at e
      rw [h2]
      cases er : lookAll g ps with
      | none => rw [er] at e; cases e
      | some r =>
        rw [er] at e
        cases e
        obtain ⟨ys, h4, h5⟩ := lookAll_rel h er
        rw [h4]
        exact ⟨b :: ys, rfl, .cons h3 h5⟩
theorem byName_rel {ps : List Str} {vs : List α} {us : List β} {ks : List Str} {kvs : List α} {ws : List β} {ds : List α} {es : List β} {xs : List α} (hv : Paired R vs us) (hk : Paired R kvs ws) (hd : Paired R ds es) (h : byName ps vs ks kvs ds = some xs) :
    ∃ ys, byName ps us ks ws es = some ys ∧ Paired R xs ys := by
  unfold byName at h ⊢
  have e1 : ∀ k, ((ps.zip vs).lookup k).isNone = ((ps.zip us).lookup k).isNone := fun k => by
    rcases zip_rel (ps := ps) k hv with ⟨h1, h2⟩ | ⟨a, b, h1, h2, _⟩ <;> rw [h1, h2] <;> rfl
  rw [← Paired.length hv, ← Paired.length hk, ← Paired.length hd]
  simp only [← e1]
  split at h
  · rename_i hc
    rw [if_pos hc]
    exact lookAll_rel (fun k => given_rel k hv hk hd) h
  · cases h
end

/-! ### the binder -/
theorem forIn_kw {δ : Type} {normal : List Str} {f : (Str × Value) → (List (Str × Value) × δ) → Sem (ForInStep (List (Str × Value) × δ))}
    (hf : ∀ k v sl ex, normal.contains k = true → sl.lookup k = none → f (k, v) (sl, ex) = pure (.yield (sl ++ [(k, v)], ex))) :
    ∀ (kw sl : List (Str × Value)) (ex : δ), (∀ p ∈ kw, normal.contains p.1 = true) → (kw.map (·.1)).Nodup → (∀ p ∈ kw, sl.lookup p.1 = none) → forIn kw (sl, ex) f = (pure (sl ++ kw, ex) : Sem _)
  | [], sl, ex, _, _, _ => by
    rw [List.forIn_nil, List.append_nil]
  | (k, v) :: kw, sl, ex, h1, h2, h3 => by
    rw [List.forIn_cons, hf k v sl ex (h1 _ List.mem_cons_self) (h3 _ List.mem_cons_self), pure_bind]
    show forIn kw (sl ++ [(k, v)], ex) f = _
    rw [List.map_cons, List.nodup_cons] at h2
    rw [forIn_kw hf kw _ ex (fun p hp => h1 p (List.mem_cons_of_mem _ hp)) h2.2 fun p hp => ?_, List.append_assoc]
    · rfl
    · rw [lookup_app, h3 p (List.mem_cons_of_mem _ hp)]
      show List.lookup p.1 [(k, v)] = none
      have hne : (p.1 == k) = false := beq_eq_false_iff_ne.mpr fun e => h2.1 (by rw [← e]; exact List.mem_map.mpr ⟨p, hp, rfl⟩)
      rw [List.lookup_cons, hne]
      rfl
def addAll (sl : List (Str × Value)) : List (Str × Value) → List (Str × Value)
  | [] => sl
  | p :: r => addAll (if (sl.lookup p.1).isNone = true then sl ++ [p] else sl) r
theorem addAll_lookup (k : Str) : ∀ (l sl : List (Str × Value)), (addAll sl l).lookup k = (sl ++ l).lookup k
  | [], sl => by
    rw [List.append_nil]
    rfl
  | p :: r, sl => by
    unfold addAll
    rw [addAll_lookup k r]
    split
    · rw [List.append_assoc]
      rfl
    · rename_i h
      rw [lookup_app, lookup_app]
      by_cases e : k = p.1
      · subst e
        cases q : sl.lookup p.1 with
        | none => rw [q] at h; exact absurd rfl h
        | some v => rfl
      · congr 1
        rw [show (p :: r : List (Str × Value)) = (p.1, p.2) :: r from rfl, List.lookup_cons, beq_eq_false_iff_ne.mpr e]
theorem forIn_dfl {f : (Str × Value) → List (Str × Value) → Sem (ForInStep (List (Str × Value)))} (hf : ∀ n d sl, f (n, d) sl = pure (.yield (if (sl.lookup n).isNone = true then sl ++ [(n, d)] else sl))) :
    ∀ l sl : List (Str × Value), forIn l sl f = (pure (addAll sl l) : Sem _)
  | [], sl => by
    rw [List.forIn_nil]
    rfl
  | (n, d) :: l, sl => by
    rw [List.forIn_cons, hf n d sl, pure_bind]
    exact forIn_dfl hf l _
theorem lookAll_zip {g : List (Str × Value)} : ∀ {ps : List Str} {xs : List Value}, lookAll g ps = some xs → (ps.filterMap fun n => (g.lookup n).map (n, ·)) = ps.zip xs
  | [], xs, e => by
    cases e
    rfl
  | p :: ps, xs, e => by
    unfold lookAll at e
    cases h1 : g.lookup p with
    | none => rw [h1] at e; cases e
    | some v =>
      rw [h1] at e
      cases er : lookAll g ps with
      | none => rw [er] at e; cases e
      | some r =>
        rw [er] at e
        cases e
        rw [List.filterMap_cons, h1]
        show (p, v) :: _ = _
        rw [lookAll_zip er]
        rfl
theorem lookAll_some {g : List (Str × Value)} : ∀ {ps : List Str} {xs : List Value}, lookAll g ps = some xs → ∀ p ∈ ps, ∃ v, g.lookup p = some v
  | [], _, _, p, hp => by simp at hp
  | q :: ps, xs, e, p, hp => by
    unfold lookAll at e
    cases h1 : g.lookup q with
    | none => rw [h1] at e; cases e
    | some v =>
      rw [h1] at e
      cases er : lookAll g ps with
      | none => rw [er] at e; cases e
      | some r =>
        rcases List.mem_cons.mp hp with z | z
        · rw [z]
          exact ⟨v, h1⟩
        · exact lookAll_some er p z
theorem lookup_zip_none {k : Str} {γ : Type} : ∀ {qs : List Str} {vs : List γ}, k ∉ qs → (qs.zip vs).lookup k = none
  | [], _, _ => rfl
  | q :: qs, [], _ => rfl
  | q :: qs, v :: vs, h => by
    rw [List.zip_cons_cons, List.lookup_cons, beq_eq_false_iff_ne.mpr fun e => h (by rw [e]; exact List.mem_cons_self)]
    exact lookup_zip_none fun z => h (List.mem_cons_of_mem _ z)
section
variable {K : Fg} {x qual : Str} {params : Arguments} {body : List Stmt} {scope : Scope} {dvs : List V} {kws : List (Str × V)} {f : Addr} {fd : FuncData} {ps : List Str}
/-- plain parameters -/
structure Plain (params : Arguments) (ps : List Str) : Prop where
  pos : params.posonlyargs = []
  args : params.args.map (·.arg) = ps
  va : params.vararg = none
  ko : params.kwonlyargs = []
  kw : params.kwarg = none
theorem binds_of {s : Shared} {us ws es zs : List Value} {ks : List Str} (hp : Plain params ps) (nd : ps.Nodup) (hdf : ∀ (α : Type) (k : Option (Array Value) → Sem α) (r : α), k (if es = [] then none else some es.toArray) = pure r → ∀ M, PySem.W.Looks M s.heap (seqItems? fd.defaults >>= k) r)
    (ep : fd.params = params) (h : byName ps us ks ws es = some zs) : BindsTo s fd ⟨us, ks.zip ws⟩ (ps.zip zs) := by
  unfold byName at h
  split at h
  · rename_i hc
    simp only [Bool.and_eq_true, List.all_eq_true, decide_eq_true_eq] at hc
    obtain ⟨h1, h2, h3, h4, h5⟩ := hc
    have h1 := Nat.le_of_ble_eq_true h1
    have h2 := Nat.le_of_ble_eq_true h2
    have h5 := Nat.eq_of_beq_eq_true h5
    refine BindsTo.of_looks fun M => ?_
    unfold bindArgs
    simp only [ep, hp.pos, hp.va, hp.ko, hp.kw, hp.args, List.map_nil, List.nil_append, List.append_nil]
    have hkeys : (ks.zip ws).map (·.1) = ks := by rw [List.map_fst_zip]; omega
    rw [forIn_kw (normal := ps) (fun k v sl ex hk hl => ?_) (ks.zip ws) (ps.zip us) [] (fun p hm => ?_) (by rw [hkeys]; exact h4) fun p hm => ?_]
    · simp only [pure_bind]
      refine hdf _ _ _ ?_ M
      have hdl : (((if es = [] then none else some es.toArray : Option (Array Value)).getD #[]).toList : List Value) = es := by
        by_cases he : es = []
        · rw [if_pos he, he]
          rfl
        · rw [if_neg he]
          rfl
      simp only [hdl]
      rw [if_neg (by simp; omega)]
      have hd0 : List.drop (es.length - ps.length) es = es := by rw [show es.length - ps.length = 0 by omega, List.drop_zero]
      rw [hd0]
      have hmiss : List.filter (fun n => (List.lookup n (ps.zip us ++ ks.zip ws)).isNone) (List.take (ps.length - es.length) ps) = [] := by
        rw [List.filter_eq_nil_iff]
        intro n hn
        obtain ⟨v, hv⟩ := lookAll_some h n (List.mem_of_mem_take hn)
        have hnot : n ∉ List.drop (ps.length - es.length) ps := fun z => by
          have := List.take_append_drop (ps.length - es.length) ps
          rw [← this] at nd
          exact (List.nodup_append.mp nd).2.2 n hn n z rfl
        rw [lookup_app, lookup_zip_none hnot, Option.or_none] at hv
        rw [hv]
        simp
      rw [hmiss]
      simp only [List.isEmpty_nil, Bool.not_true, Bool.false_eq_true, if_false]
      rw [forIn_dfl (fun n d sl => ?_)]
      · simp only [pure_bind, List.forIn_nil, List.isEmpty_nil, Bool.not_true, Bool.false_eq_true, if_false]
        have hfin : (List.filterMap (fun n => Option.map (fun x => (n, x)) (List.lookup n (addAll (ps.zip us ++ ks.zip ws) ((List.drop (ps.length - es.length) ps).zip es)))) ps) = ps.zip zs := by
          simp only [addAll_lookup]
          exact lookAll_zip h
        rw [hfin]
      · split <;> rfl
    · rw [if_pos (by rw [hk]; rfl), if_neg (by rw [hl]; simp)]
    · have := h3 p.1 (by rw [← hkeys]; exact List.mem_map.mpr ⟨p, hm, rfl⟩)
      exact this.1
    · have := h3 p.1 (by rw [← hkeys]; exact List.mem_map.mpr ⟨p, hm, rfl⟩)
      simpa using this.2
  · cases h
end
end EV
/-! SdI: calls of defs, of methods, of classes. -/
namespace EV
open PySem PySem.Spec PyProof.Rows L2

theorem RepL.paired {K : Fg} {w : Wd} : ∀ {vs : List Val} {xs : List V}, RepL K w vs xs → Paired (RepV K w) vs xs
  | _, _, .nil => .nil
  | _, _, .cons h r => .cons h (RepL.paired r)
theorem RepL.ofPaired {K : Fg} {w : Wd} : ∀ {vs : List Val} {xs : List V}, Paired (RepV K w) vs xs → RepL K w vs xs
  | _, _, .nil => .nil
  | _, _, .cons h r => .cons h (RepL.ofPaired r)
/-- what is known of a def of the text -/
structure DefOk (K : Fg) (d : Def) (fd : FuncData) : Prop where
  keep : PySem.W.keepIn K (.ref (He.fAd K d.at_)) = true
  fn : PySem.W.isFn K (.ref (He.fAd K d.at_)) = true
  dfl : ∃ dvs es, (∀ w, RepL K w d.dfl dvs) ∧ Vals dvs es ∧ ∀ (s : Shared) (us ws zs : List Value) (ks : List Str), K.In s.heap → byName d.ps us ks ws es = some zs → BindsTo s fd ⟨us, ks.zip ws⟩ (d.ps.zip zs)
theorem defOk_of {K : Fg} {d : Def} {fd : FuncData} {x qual : Str} {params : Arguments} {body : List Stmt} {scope : Scope} {dvs : List V} {kws : List (Str × V)} (F : FunD K x qual params body scope dvs kws (He.fAd K d.at_) fd) (hfn : PySem.W.isFn K (.ref (He.fAd K d.at_)) = true) (hp : Plain params d.ps) (nd : d.ps.Nodup)
    (hd : ∀ w, RepL K w d.dfl dvs) : DefOk K d fd := by
  refine ⟨F.kp, hfn, ?_⟩
  obtain ⟨oc, od, dV, kV, doc, pm, an, cdv, ct, osl, efd, lk, hcd, hD, _⟩ := F.ex
  rcases hD with ⟨e1, e2⟩ | ⟨h0, T, o, its, n, e2, h1, h2, h3⟩
  · refine ⟨dvs, [], hd, by rw [e1]; exact .nil, fun s us ws zs ks hk hb => binds_of (es := []) hp nd (fun α k r h M => ?_) (by rw [efd]) hb⟩
    rw [efd]
    subst e2
    rw [if_pos rfl] at h
    show PySem.W.Looks M s.heap (pure none >>= k) r
    rw [pure_bind, h]
    exact .of_pure rfl
  · refine ⟨dvs, its, hd, h3, fun s us ws zs ks hk hb => binds_of (es := its) hp nd (fun α k r h M => ?_) (by rw [efd]) hb⟩
    rw [efd]
    subst e2
    have hn : its ≠ [] := fun z => by
      subst z
      cases h3
      exact h0 rfl
    rw [if_neg hn] at h
    exact looks_items hk h1 h2 (.of_pure h)
def DefsOk (K : Fg) (G : Gl) (fdm : Str → FuncData) : Prop := ∀ nm d, G.defs.lookup nm = some d → DefOk K d (fdm nm)

section
variable {X : Cx} {W : WX} {f : Fr} {G : Gl} {cl : CallF} {fdm : Str → FuncData} {k : Nat} {pos : Pos} {pins : List (Addr × Obj)} {σ : L2.St} {H : Hp} {s : Shared}
theorem Run.to {α β : Type} {Rp : RP α β} {Bs : BX} {K : Fg} {σ : L2.St} {w : Wd} {Q : β → Hp → Prop} {r : R α} (h : Run K Bs Rp W σ w Q r) : Run K Bs Rp (WE fun c d H => W c d σ H) [] w Q r := by
  cases r with
  | ok a cs => exact h
  | exc x cs => exact h
  | bad => exact h
theorem cxp (g : Good G cl fdm X W f k) (I : Inv X pins σ H s) {u : Value} {s' : Shared} (c : CX X.prog X.w X.stack H s (fun cls d H' => W cls d σ H') u s') : X.xe u s' :=
  g.tk u s' (XE.of_call I (fun _ _ _ h => h) c)
theorem lookAll_len {α : Type} {g : List (Str × α)} : ∀ {ps : List Str} {xs : List α}, lookAll g ps = some xs → xs.length = ps.length
  | [], xs, e => by
    cases e
    rfl
  | p :: ps, xs, e => by
    unfold lookAll at e
    cases h1 : g.lookup p with
    | none => rw [h1] at e; cases e
    | some v =>
      rw [h1] at e
      cases er : lookAll g ps with
      | none => rw [er] at e; cases e
      | some r =>
        rw [er] at e
        cases e
        exact congrArg (· + 1) (lookAll_len er)
theorem byName_len {α : Type} {ps ks : List Str} {vs kvs dfl xs : List α} (h : byName ps vs ks kvs dfl = some xs) : xs.length = ps.length := by
  unfold byName at h
  split at h
  · exact lookAll_len h
  · cases h
/-- a def called with values, by its code -/
theorem code_def (g : Good G cl fdm X W f k) (hD : DefsOk X.K G fdm) {A : Around} {outer : List Env} (hA : Room k A) (hgd : A.guards = some []) (e0 : Env0 X.prog X.w X.K X.mg X.base A outer s H) {w : Wd} {cs : Cells} {Q : VK} {E : XK} {nm : Str} {d : Def} (hd : G.defs.lookup nm = some d) {vs kvs : List Val} {xs zs : List V} {us ws : List Value} {ks : List Str}
    (hh : HRel X.K w f.Bs cs H) (r1 : RepL X.K w vs xs) (r2 : Vals xs us) (q1 : RepL X.K w kvs zs) (q2 : Vals zs ws) (run : Run X.K f.Bs (rV X.K) (WE E) [] w Q (callD G cl f.base nm vs ks kvs cs)) :
    codeAny (model X.prog X.w) A (.call (.ref (He.fAd X.K d.at_)) ⟨us, ks.zip ws⟩) (CR (CX X.prog X.w) outer X.prog X.w H s Q E) s := by
  have run : Run X.K f.Bs (rV X.K) (WE E) [] w Q (match G.defs.lookup nm with
    | some d => match byName d.ps vs ks kvs d.dfl with
      | some ws => cl nm ws f.base cs
      | none => .bad
    | none => .bad) := run
  rw [hd] at run
  simp only at run
  obtain ⟨_, _, dvs, es, hdf, hes, hb⟩ := hD nm d hd
  cases eb : byName d.ps vs ks kvs d.dfl with
  | none => simp only [eb] at run; exact run.elim
  | some as =>
    simp only [eb] at run
    obtain ⟨ys, e1, p1⟩ := byName_rel r1.paired q1.paired (hdf w).paired eb
    obtain ⟨bs, e2, p2⟩ := byName_rel r2 q2 hes e1
    exact g.call nm d hd A outer s H ⟨us, ks.zip ws⟩ bs ys as Q E w cs f hA hgd e0 (hb s us ws bs ks (e0.mod.kin.keeps fun b o e => (e0.bs b o e).1) e2) p2 hh (.ofPaired p1) g.hf (byName_len eb) run
/-- a def called with values -/
theorem run_def (g : Good G cl fdm X W f k) (hD : DefsOk X.K G fdm) (I : Inv X pins σ H s) {w : Wd} {cs : Cells} {Q : VK} {nm : Str} {d : Def} (hd : G.defs.lookup nm = some d) {vs kvs : List Val} {xs zs : List V} {us ws : List Value} {ks : List Str}
    (hh : HRel X.K w f.Bs cs H) (r1 : RepL X.K w vs xs) (r2 : Vals xs us) (q1 : RepL X.K w kvs zs) (q2 : Vals zs ws) (run : Run X.K f.Bs (rV X.K) W σ w Q (callD G cl f.base nm vs ks kvs cs)) :
    wpAny (model X.prog X.w) X.A (call (.ref (He.fAd X.K d.at_)) us (ks.zip ws)) (EP X pins σ Q) X.xe s := by
  refine wpAny_call (codeAny_mono (code_def g hD (g.room.mono (Nat.le_succ _)) g.gd I.env0 hd hh r1 r2 q1 q2 run.to) fun r s' hq => ?_)
  cases r with
  | error e => exact cxp g I hq
  | ok fl =>
    cases fl with
    | ret u => exact I.after hq
    | next => exact False.elim hq
    | brk => exact False.elim hq
    | cont => exact False.elim hq

/-! ### argument lists -/
/-- how a call is written: no star; a star behind the first argument -/
inductive Shape (X : Cx) (pos : Pos) : List Expr → List Keyword → List Str → Prop
  | kw0 {kws : List Keyword} {ks : List Str} : (backToKw pos (keywordEach kws X.env)).all (·.1.isSome) = true → (backToKw pos (keywordEach kws X.env)).filterMap (·.1) = ks → (backToKw pos (keywordEach kws X.env)).any (·.1.isNone) = false → Shape X pos [] kws ks
  | kw {e : Expr} {r : List Expr} {kws : List Keyword} {ks : List Str} : (backToKw pos (keywordEach kws X.env)).all (·.1.isSome) = true → (backToKw pos (keywordEach kws X.env)).filterMap (·.1) = ks →
      ((backTo pos (starEach (e :: r) X.env)).any (·.1) || (backToKw pos (keywordEach kws X.env)).any (·.1.isNone)) = false → starEach (e :: r) X.env = (false, eval e X.env) :: starEach r X.env → Shape X pos (e :: r) kws ks
  | star {e : Expr} {r : List Expr} : starEach (e :: r) X.env = (false, eval e X.env) :: starEach r X.env → (backTo pos (starEach r X.env)).any (·.1) = true → Shape X pos (e :: r) [] []
theorem PK.imp {kws : List Keyword} {t t' : TA} (h : PK X kws t) (q : ∀ σ H Q, t' σ H Q → t σ H Q) : PK X kws t' := ⟨fun pos pins s σ H Q I hq => h.run pos pins s σ H Q I (q σ H Q hq)⟩
theorem sk_nil : PK X [] (TL X f.Bs W (evEs G cl f.base .nil)) := PK.imp pk_nil fun σ H Q ⟨w, s, cs, hs, hh, hr⟩ => Run.done (a := []) hr hh .nil
theorem sk_cons {e : Expr} {kws : List Keyword} {c : E} {cr : Es} {nm : Option Str} {kpos : Pos} (ha : PE X e (TV X f.Bs W (evE G cl f.base c))) (hr : PK X kws (TL X f.Bs W (evEs G cl f.base cr))) : PK X (⟨nm, e, kpos⟩ :: kws) (TL X f.Bs W (evEs G cl f.base (.cons c cr))) :=
  PK.imp (pk_cons ha hr) fun σ H Q h => T.bind (g := fun s v cs => (evEs G cl f.base cr s cs).bind fun vs cs => .ok (v :: vs) cs) h fun w s a x cs H1 hs hh r run =>
    T.next hs hh run fun w1 as xs cs1 H2 l hh2 r2 run2 => Run.done run2 hh2 (.cons (r.mono l) r2)
/-- the arguments evaluated, the value called -/
theorem sd_with {es : List Expr} {kws : List Keyword} {ks : List Str} {ces ckes : Es} {F : Value} {first : List Value} {α : Type} {g : List Val → List Val → Cells → R Val} {w : Wd} {st : LSt} {cs : Cells} {Q : VK} (sh : Shape X pos es kws ks) (hk : PySem.W.keepIn X.K F = true) (ha : PA X es (TL X f.Bs W (evEs G cl f.base ces))) (hkw : PK X kws (TL X f.Bs W (evEs G cl f.base ckes))) (I : Inv X pins σ H s)
    (hs : SRel X.K w st σ) (hh : HRel X.K w f.Bs cs H) (run : Run X.K f.Bs (rV X.K) W σ w Q ((evEs G cl f.base ces st cs).bind fun vs cs => (evEs G cl f.base ckes st cs).bind fun kvs cs => g vs kvs cs)) (hc0 : es = [] → ces = .nil) (hk0 : kws = [] → ckes = .nil)
    (q : ∀ (s' : Shared) (H' : Hp) (w' : Wd) (cs' : Cells) (vs kvs : List Val) (xs zs : List V) (us ws : List Value), Inv X pins σ H' s' → w.le w' → HRel X.K w' f.Bs cs' H' → RepL X.K w' vs xs → Vals xs us → RepL X.K w' kvs zs → Vals zs ws → Run X.K f.Bs (rV X.K) W σ w' Q (g vs kvs cs') →
      wpAny (model X.prog X.w) X.A (call F (first ++ us) (ks.zip ws)) (EP X pins σ Q) X.xe s') :
    wpAny (model X.prog X.w) X.A (callWith pos F first (backTo pos (starEach es X.env)) (backToKw pos (keywordEach kws X.env))) (EP X pins σ Q) X.xe s := by
  have hT : TL X f.Bs W (evEs G cl f.base ces) σ H (fun xs H1 => ∃ w1 vs cs1, w.le w1 ∧ HRel X.K w1 f.Bs cs1 H1 ∧ RepL X.K w1 vs xs ∧ Run X.K f.Bs (rV X.K) W σ w1 Q ((evEs G cl f.base ckes st cs1).bind fun kvs cs => g vs kvs cs)) :=
    T.next hs hh run fun w1 vs xs cs1 H1 l hh1 r1 run1 => ⟨w1, vs, cs1, l, hh1, r1, run1⟩
  have hK : ∀ {w1 : Wd} {vs : List Val} {cs1 : Cells} {H1 : Hp} {xs : List V}, w.le w1 → HRel X.K w1 f.Bs cs1 H1 → RepL X.K w1 vs xs → Run X.K f.Bs (rV X.K) W σ w1 Q ((evEs G cl f.base ckes st cs1).bind fun kvs cs => g vs kvs cs) →
      TL X f.Bs W (evEs G cl f.base ckes) σ H1 (fun zs H2 => ∃ w2 kvs cs2, w1.le w2 ∧ HRel X.K w2 f.Bs cs2 H2 ∧ RepL X.K w2 kvs zs ∧ Run X.K f.Bs (rV X.K) W σ w2 Q (g vs kvs cs2)) := fun l hh1 r1 run1 =>
    T.next (hs.mono l) hh1 run1 fun w2 kvs zs cs2 H2 l2 hh2 r2 run2 => ⟨w2, kvs, cs2, l2, hh2, r2, run2⟩
  cases sh with
  | kw0 hall hks hn =>
    rw [hc0 rfl] at run
    refine PySem.W.callWith_KW0 (h₀ := X.base) I.ok.mod.kin hk hall ?_ (by show (false || _) = false; rw [hn]; rfl)
    refine thn (hkw.run pos pins s σ H _ I (hK (vs := []) .rfl hh .nil run)) fun ws s2 ⟨zs, H2, I2, rz, w2, kvs, cs2, l2, hh2, r2, run2⟩ => ⟨I2.kIn, ?_⟩
    rw [hks]
    exact q s2 H2 w2 cs2 [] kvs [] zs [] ws I2 l2 hh2 .nil .nil r2 rz run2
  | kw hall hks hpl he =>
    refine PySem.W.callWith_KW (h₀ := X.base) I.ok.mod.kin hk hall (thn (ha.run pos pins s σ H _ I hT) fun us s1 ⟨xs, H1, I1, rx, w1, vs, cs1, l1, hh1, r1, run1⟩ => ?_) hpl he
    refine thn (hkw.run pos pins s1 σ H1 _ I1 (hK l1 hh1 r1 run1)) fun ws s2 ⟨zs, H2, I2, rz, w2, kvs, cs2, l2, hh2, r2, run2⟩ => ⟨I2.kIn, ?_⟩
    rw [hks]
    exact q s2 H2 w2 cs2 vs kvs xs zs us ws I2 (l1.trans l2) hh2 (r1.mono l2) rx r2 rz run2
  | star he hst =>
    refine PySem.W.callWith_S2 (h₀ := X.base) I.ok.mod.kin hk (thn (ha.run pos pins s σ H _ I hT) fun us s1 ⟨xs, H1, I1, rx, w1, vs, cs1, l1, hh1, r1, run1⟩ => ⟨I1.kIn, ?_⟩) he hst
    rw [hk0 rfl] at run1
    exact q s1 H1 w1 cs1 vs [] xs [] us [] I1 l1 hh1 r1 rx .nil .nil run1
end
end EV
/-! SdJ: calls as expressions; fields. -/
namespace EV
open PySem PySem.Spec PyProof.Rows L2

/-- what is known of a class -/
structure ClsOk (K : Fg) (G : Gl) (C : Str) (c : ClsI) : Prop where
  cls : Cls K (He.ga K C)
  meth : ∀ m nm, c.meths.lookup m = some nm → ∃ d, G.defs.lookup nm = some d ∧ d.at_ = (C, some m) ∧ Meth K (He.ga K C) m (He.fAd K d.at_)
  make : ∀ nm, c.meths.lookup ("__init__" : Str) = some nm → ∀ d, G.defs.lookup nm = some d → d.at_ = (C, some ("__init__" : Str)) → Mk K (He.ga K C) (He.fAd K d.at_)
def ClssOk (K : Fg) (G : Gl) : Prop := ∀ C c, G.clss.lookup C = some c → ClsOk K G C c
section
variable {X : Cx} {W : WX} {f : Fr} {G : Gl} {cl : CallF} {fdm : Str → FuncData} {k : Nat} {pos : Pos} {es : List Expr} {kws : List Keyword} {ks : List Str} {ces ckes : Es}
theorem sd_call (g : Good G cl fdm X W f k) (hD : DefsOk X.K G fdm) {x nm : Str} {d : Def} {p : Pos} (hd : G.defs.lookup nm = some d) (hc : G.clss.lookup nm = none) (hg : L2.Gl X x) (hm : X.mg x = some (.ref (He.fAd X.K d.at_))) (hdb : (x == ("__debug__" : Str)) = false)
    (sh : Shape X pos es kws ks) (ha : PA X es (TL X f.Bs W (evEs G cl f.base ces))) (hkw : PK X kws (TL X f.Bs W (evEs G cl f.base ckes))) (hc0 : es = [] → ces = .nil) (hk0 : kws = [] → ckes = .nil) :
    PE X (.Call (.Name x p) es kws pos) (TV X f.Bs W (evE G cl f.base (.cll nm ces ks ckes))) := by
  refine ⟨fun pins s σ H Q I ⟨w, st, cs, hs, hh, hr⟩ => ?_⟩
  refine wpAny_Call_Name_kw (ld_glob I hg hm ?_ hdb)
  refine sd_with (α := Unit) (first := []) (g := fun vs kvs cs => callG G cl f.base nm vs ks kvs cs) sh (hD nm d hd).keep ha hkw I hs hh hr hc0 hk0 fun s' H' w' cs' vs kvs xs zs us ws I' l hh' r1 r2 q1 q2 run => ?_
  have e : callG G cl f.base nm vs ks kvs cs' = callD G cl f.base nm vs ks kvs cs' := by
    unfold callG
    rw [hc]
  rw [e] at run
  exact run_def g hD I' hd hh' r1 r2 q1 q2 run
theorem guards_make {A : Around} {C : Addr} {us : List Value} {kw : List (Str × Value)} (h : A.guards = some []) : (A.under (.builtin "type.__call__" ⟨.ref C :: us, kw⟩)).guards = some [] := by
  simp [Around.under, Code.guards, pushGuards, h, guardIds, Code.isGuard, Code.isFrame]
theorem upd_new {K : Fg} {w : Wd} {Bs : BX} {cs : Cells} {H : Hp} (h : HRel K w Bs cs H) {p : Addr} {o : HO} (e : H p = none) : HRel K w Bs cs (upd H p o) :=
  ⟨h.n, fun q u z => upd_keep e q u (h.fr q u z), fun q u z => ⟨upd_keep e q u (h.ac q u z).1, (h.ac q u z).2⟩, fun a ob z => ⟨(h.cell a ob z).1.heap (upd_keep e), (h.cell a ob z).2⟩, h.inj, h.clean, h.bs, h.xo⟩
theorem sd_new (g : Good G cl fdm X W f k) (hD : DefsOk X.K G fdm) (hC : ClssOk X.K G) {x C nm : Str} {c : ClsI} {p : Pos} (hd : G.clss.lookup C = some c) (hi : c.meths.lookup ("__init__" : Str) = some nm) (hg : L2.Gl X x) (hm : X.mg x = some (.ref (He.ga X.K C))) (hdb : (x == ("__debug__" : Str)) = false)
    (sh : Shape X pos es kws ks) (ha : PA X es (TL X f.Bs W (evEs G cl f.base ces))) (hkw : PK X kws (TL X f.Bs W (evEs G cl f.base ckes))) (hc0 : es = [] → ces = .nil) (hk0 : kws = [] → ckes = .nil) :
    PE X (.Call (.Name x p) es kws pos) (TV X f.Bs W (evE G cl f.base (.cll C ces ks ckes))) := by
  obtain ⟨d, hdd, eat, hme⟩ := (hC C c hd).meth _ _ hi
  have M : Mk X.K (He.ga X.K C) (He.fAd X.K d.at_) := (hC C c hd).make _ hi d hdd eat
  refine ⟨fun pins s σ H Q I ⟨w, st, cs, hs, hh, hr⟩ => ?_⟩
  refine wpAny_Call_Name_kw (ld_glob I hg hm ?_ hdb)
  refine sd_with (α := Unit) (first := []) (g := fun vs kvs cs => callG G cl f.base C vs ks kvs cs) sh M.kp ha hkw I hs hh hr hc0 hk0 fun s' H' w' cs' vs kvs xs zs us ws I' l hh' r1 r2 q1 q2 run => ?_
  have e : callG G cl f.base C vs ks kvs cs' = newI G cl f.base C nm vs ks kvs cs' := by
    unfold callG
    rw [hd]
    show (match c.meths.lookup ("__init__" : Str) with
      | some m => newI G cl f.base C m vs ks kvs cs'
      | none => .bad) = _
    rw [hi]
  rw [e] at run
  -- the new instance and its dict
  have n0 : H' s'.heap.objs.size = none := I'.hok.fresh (Nat.le_refl _)
  have n1 : H' (s'.heap.objs.size + 1) = none := I'.hok.fresh (Nat.le_succ _)
  have I2 := Inv.made (C := He.ga X.K C) I'
  have ne : s'.heap.objs.size + 1 ≠ s'.heap.objs.size := Nat.succ_ne_self _
  have n1' : upd H' s'.heap.objs.size (.own (s'.heap.objs.size + 1)) (s'.heap.objs.size + 1) = none := by rw [upd_ne ne]; exact n1
  have hh1 := upd_new (o := .ins (He.ga X.K C) s'.heap.objs.size []) (upd_new (o := .own (s'.heap.objs.size + 1)) hh' n0) n1'
  have hh2 := hh1.push (p := s'.heap.objs.size + 1) (ob := .ins C []) (hh'.none_F n1) (hh'.none_A n1) (fun a ha => hh'.none_i n1 ha)
    ⟨s'.heap.objs.size, [], upd_same, by rw [upd_ne (Ne.symm ne)]; exact upd_same, hh'.none_F n0, .nil⟩
  have lp : w'.le (w'.push (s'.heap.objs.size + 1)) := Wd.push_le
  have hself : RepV X.K (w'.push (s'.heap.objs.size + 1)) (.ref cs'.length) (.ref (s'.heap.objs.size + 1)) := by
    have := RepV.ref (K := X.K) (w := w'.push (s'.heap.objs.size + 1)) (a := w'.n) (Nat.lt_succ_self _)
    rw [Wd.push_i] at this
    rw [← hh'.n]
    exact this
  have run2 : Run X.K f.Bs (rV X.K) (WE fun c d H => W c d σ H) [] (w'.push (s'.heap.objs.size + 1)) (fun v H2 => v = .non ∧ Q (.ref (s'.heap.objs.size + 1)) H2) (callD G cl f.base nm (.ref cs'.length :: vs) ks kvs (cs' ++ [.ins C []])) := by
    have run : Run X.K f.Bs (rV X.K) W σ w' Q ((callD G cl f.base nm (.ref cs'.length :: vs) ks kvs (cs' ++ [.ins C []])).bind fun r cs1 => match r with
      | .non => .ok (.ref cs'.length) cs1
      | _ => .bad) := run
    cases ec : callD G cl f.base nm (.ref cs'.length :: vs) ks kvs (cs' ++ [.ins C []]) with
    | bad => rw [ec] at run; exact run
    | exc x cs1 =>
      rw [ec] at run
      exact fun w2 H2 c d l2 => run w2 H2 c d (lp.trans l2)
    | ok r cs1 =>
      rw [ec] at run
      intro w2 x2 H2 l2 hh3 r3
      cases r with
      | non =>
        cases r3
        exact ⟨rfl, run w2 _ H2 (lp.trans l2) hh3 (hself.mono l2)⟩
      | _ => exact run.elim
  refine wpAny_call (make_map (f := He.fAd X.K d.at_) I'.kIn M.makes M.init (beq_iff_eq.mp M.fn) (codeAny_mono (code_def g hD (g.room.make (He.ga X.K C) us (ks.zip ws)) (guards_make g.gd) (I2.env0.make (He.ga X.K C) us (ks.zip ws)) hdd hh2
    (.cons hself (r1.mono lp)) (us := Value.ref (s'.heap.objs.size + 1) :: us) (.cons rfl r2) (q1.mono lp) q2 run2) fun r s2 hq => ?_))
  cases r with
  | error e => exact cxp g I2 hq
  | ok fl =>
    cases fl with
    | ret u =>
      obtain ⟨v, H3, I3, rv, ev, q3⟩ := I2.after hq
      subst ev
      exact ⟨rv, ⟨V.ref (s'.heap.objs.size + 1), H3, I3, rfl, q3⟩⟩
    | next => exact False.elim hq
    | brk => exact False.elim hq
    | cont => exact False.elim hq
end
end EV
/-! SdK: methods, called values, fields read and written. -/
namespace EV
open PySem PySem.Spec PyProof.Rows L2

section
variable {X : Cx} {W : WX} {f : Fr} {G : Gl} {cl : CallF} {fdm : Str → FuncData} {k : Nat} {pos : Pos} {es : List Expr} {kws : List Keyword} {ks : List Str} {ces ckes : Es} {o e : Expr} {c co : E}
theorem mthF_some {cs : Cells} {v : Val} {m x : Str} (h : mthF G cs v m = some x) : ∃ C fs c, insOf cs v = some (C, fs) ∧ G.clss.lookup C = some c ∧ fs.lookup m = none ∧ c.meths.lookup m = some x := by
  unfold mthF at h
  split at h
  · rename_i C fs hi
    split at h
    · rename_i c hc
      split at h
      · rename_i hf
        exact ⟨C, fs, c, hi, hc, hf, h⟩
      · cases h
    · cases h
  · cases h
theorem sd_mth (g : Good G cl fdm X W f k) (hD : DefsOk X.K G fdm) (hC : ClssOk X.K G) {m : Str} {apos : Pos} {pl : Sem Bool} (ho : PE X o (TV X f.Bs W (evE G cl f.base co)))
    (sh : Shape X pos es kws ks) (ha : PA X es (TL X f.Bs W (evEs G cl f.base ces))) (hkw : PK X kws (TL X f.Bs W (evEs G cl f.base ckes))) (hc0 : es = [] → ces = .nil) (hk0 : kws = [] → ckes = .nil)
    (ht : eval (.Call (.Attribute o m apos) es kws pos) X.env = (do
      let ov ← eval o X.env
      standAt apos.atName
      let (f, first) ← holding [ov] (getMethod ov m pl)
      callWith pos f first (backTo pos (starEach es X.env)) (backToKw pos (keywordEach kws X.env)))) :
    PE X (.Call (.Attribute o m apos) es kws pos) (TV X f.Bs W (evE G cl f.base (.mth co m ces ks ckes))) := by
  refine ⟨fun pins s σ H Q I h => ?_⟩
  refine PySem.W.methodCall_KW (pl := pl) (thn (ho.run pins s σ H (fun x H1 => ∃ w st cs v nm, SRel X.K w st σ ∧ HRel X.K w f.Bs cs H1 ∧ RepV X.K w v x ∧ mthF G cs v m = some nm ∧
    Run X.K f.Bs (rV X.K) W σ w Q ((evEs G cl f.base ces st cs).bind fun vs cs => (evEs G cl f.base ckes st cs).bind fun kvs cs => callD G cl f.base nm (v :: vs) ks kvs cs)) I ?_) fun u s1 ⟨x, H1, I1, rx, w, st, cs, v, nm, hs, hh, rv, em, run⟩ => ?_) ht
  · refine T.bind (g := fun s v cs => match mthF G cs v m with
      | some x => (evEs G cl f.base ces s cs).bind fun vs cs => (evEs G cl f.base ckes s cs).bind fun kvs cs => callD G cl f.base x (v :: vs) ks kvs cs
      | none => .bad) h fun w st v x cs H1 hs hh r run => ?_
    cases em : mthF G cs v m with
    | none => simp only [em] at run; exact run.elim
    | some nm =>
      simp only [em] at run
      exact ⟨w, st, cs, v, nm, hs, hh, r, em, run⟩
  · obtain ⟨C, fs, c, hi, hc, hf, hm⟩ := mthF_some em
    obtain ⟨p, dx, gs, rfl, hp, hdx, hr⟩ := hh.ins_ rv hi
    obtain ⟨d, hd, eat, hme⟩ := (hC C c hc).meth m nm hm
    obtain rfl : u = Value.ref p := rx
    have hl : gs.lookup m = none := by
      rcases hr.look (f := m) with ⟨_, h2⟩ | ⟨a, b, h1, _, _⟩
      · exact h2
      · rw [hf] at h1
        cases h1
    refine getmeth_ok I1 hp (hC C c hc).cls hme hl ?_
    refine sd_with (α := Unit) (first := [.ref p]) (g := fun vs kvs cs => callD G cl f.base nm (v :: vs) ks kvs cs) sh hme.kp ha hkw I1 hs hh run hc0 hk0 fun s' H' w' cs' vs kvs xs zs us ws I' l hh' r1 r2 q1 q2 run => ?_
    exact run_def g hD I' hd hh' (.cons (rv.mono l) r1) (.cons rfl r2) q1 q2 run
/-- a value that is a def called -/
theorem sd_clv (g : Good G cl fdm X W f k) (hD : DefsOk X.K G fdm) (ho : PE X o (TV X f.Bs W (evE G cl f.base co))) (sh : Shape X pos es [] []) (ha : PA X es (TL X f.Bs W (evEs G cl f.base ces))) (hc0 : es = [] → ces = .nil)
    (hcall : ∀ (s : Shared) (Q : Value → Shared → Prop), wpAny (model X.prog X.w) X.A (eval o X.env) (fun f s₁ => wpAny (model X.prog X.w) X.A (callWith pos f [] (backTo pos (starEach es X.env)) (backToKw pos (keywordEach [] X.env))) Q X.xe s₁) X.xe s →
      wpAny (model X.prog X.w) X.A (eval (.Call o es [] pos) X.env) Q X.xe s) :
    PE X (.Call o es [] pos) (TV X f.Bs W (evE G cl f.base (.clv co ces))) := by
  refine ⟨fun pins s σ H Q I h => ?_⟩
  refine hcall s _ (thn (ho.run pins s σ H (fun x H1 => ∃ w st cs nm d, SRel X.K w st σ ∧ HRel X.K w f.Bs cs H1 ∧ x = .ref (He.fAd X.K d.at_) ∧ G.defs.lookup nm = some d ∧
    Run X.K f.Bs (rV X.K) W σ w Q ((evEs G cl f.base ces st cs).bind fun vs cs => (evEs G cl f.base .nil st cs).bind fun kvs cs => callD G cl f.base nm vs [] kvs cs)) I ?_) fun u s1 ⟨x, H1, I1, rx, w, st, cs, nm, d, hs, hh, ex, hd, run⟩ => ?_)
  · refine T.bind (g := fun s v cs => match clvF G v with
      | some x => (evEs G cl f.base ces s cs).bind fun vs cs => callD G cl f.base x vs [] [] cs
      | none => .bad) h fun w st v x cs H1 hs hh r run => ?_
    cases em : clvF G v with
    | none => simp only [em] at run; exact run.elim
    | some nm =>
      simp only [em] at run
      cases v with
      | glo y =>
        cases r
        unfold clvF at em
        simp only at em
        cases hd : G.defs.lookup y with
        | none => simp [hd] at em
        | some d =>
          simp only [hd] at em
          split at em
          · rename_i hat
            cases em
            refine ⟨w, st, cs, _, d, hs, hh, ?_, hd, run⟩
            obtain ⟨⟨a1, a2⟩, _, _, _, _, _⟩ := d
            obtain ⟨h1, h2⟩ := hat
            simp only at h1 h2
            subst h1 h2
            rfl
          · cases em
      | _ => cases em
  · subst ex
    obtain rfl : u = Value.ref (He.fAd X.K d.at_) := rx
    refine sd_with (α := Unit) (first := []) (g := fun vs kvs cs => callD G cl f.base nm vs [] kvs cs) sh (hD nm d hd).keep ha sk_nil I1 hs hh run hc0 (fun _ => rfl) fun s' H' w' cs' vs kvs xs zs us ws I' l hh' r1 r2 q1 q2 run => ?_
    exact run_def g hD I' hd hh' r1 r2 q1 q2 run

/-! ### fields -/
/-- the fields that are read and written are no attributes of the class -/
def FldsOk (K : Fg) (G : Gl) : Prop := ∀ C c, G.clss.lookup C = some c → ∀ x, c.flds.contains x = true → NoAttr K (He.ga K C) x
theorem attV_some {cs : Cells} {v u : Val} {x : Str} (h : attV G cs v x = some u) : ∃ C fs c, insOf cs v = some (C, fs) ∧ G.clss.lookup C = some c ∧ c.flds.contains x = true ∧ fs.lookup x = some u := by
  unfold attV at h
  split at h
  · rename_i C fs hi
    split at h
    · rename_i c hc
      split at h
      · rename_i hf
        exact ⟨C, fs, c, hi, hc, hf, h⟩
      · cases h
    · cases h
  · cases h
theorem sd_att (hC : ClssOk X.K G) (hF : FldsOk X.K G) {x : Str} (ho : PE X o (TV X f.Bs W (evE G cl f.base co))) (hb : attributeBase o x X.env (eval o X.env) = eval o X.env) : PE X (.Attribute o x pos) (TV X f.Bs W (evE G cl f.base (.att co x))) :=
  PE.imp (pe_fld ho hb) fun σ H Q h => T.bind (g := fun _ v cs => R.of (attV G cs v x) cs) h fun w s v y cs H1 hs hh r run => by
    obtain ⟨u, eu, run⟩ := run.some_
    obtain ⟨C, fs, c, hi, hc, hf, hl⟩ := attV_some eu
    obtain ⟨p, dx, gs, rfl, hp, hdx, hr⟩ := hh.ins_ r hi
    rcases hr.look (f := x) with ⟨h1, _⟩ | ⟨a, b, h1, h2, h3⟩
    · rw [hl] at h1
      cases h1
    · rw [hl] at h1
      cases h1
      exact ⟨p, _, dx, gs, b, rfl, hp, (hC C c hc).cls, hF C c hc x hf, h2, run.done hh h3⟩
theorem put_some {α β : Type} {Rp : RP α β} {σ : L2.St} {w : Wd} {D : Ends} {base a : Nat} {cs : Cells} {o : Ob} {b : Bool} {st : LSt} {kk : Val → Cells → SR} (h : RunS X.K f W w D (SR.ofR (put base a cs o b) st kk)) : (base ≤ a ∨ b = true) ∧ RunS X.K f W w D (kk .non (cs.set a o)) := by
  unfold put at h
  cases e : (Nat.ble base a || b) with
  | false => rw [e] at h; exact h.elim
  | true =>
    rw [e] at h
    rw [Bool.or_eq_true] at e
    exact ⟨e.imp Nat.le_of_ble_eq_true id, h⟩
theorem clean_put {w : Wd} {Bs : BX} {cs : Cells} {H : Hp} {base a : Nat} {o : Ob} {ok : Bool} (top : ∀ b ∈ Bs, b ≤ base) (hok : base ≤ a ∨ ok = true) (h : ok = true → ∀ b ∈ Bs, a < b → o.undr b = true) : ∀ b, b ∈ Bs → a < b → o.undr b = true := fun b hb hab => by
  rcases hok with h1 | h1
  · have := top b hb
    omega
  · exact h h1 b hb hab
theorem setFd_run (hC : ClssOk X.K G) (hF : FldsOk X.K G) (hf : f.Ok) {w : Wd} {cs : Cells} {H : Hp} {D : Ends} {σ : L2.St} {st : LSt} {v : Val} {y z : V} {ov : Val} {x : Str} (hs : SRel X.K w st σ) (hh : HRel X.K w f.Bs cs H) (ro : RepV X.K w ov y) (rv : RepV X.K w v z)
    (run : RunS X.K f W w D (SR.ofR (setFd G f.base cs ov x v) st fun _ cs => .nx st cs)) : ∃ a C dx fs, y = .ref a ∧ H a = some (.ins C dx fs) ∧ Cls X.K C ∧ NoAttr X.K C x ∧ fs.length < 1000 ∧ D.nx σ (upd H a (.ins C dx (putF x z fs))) := by
  cases ro with
  | @ref a ha =>
    have run : RunS X.K f W w D (SR.ofR (match cs[a]? with
      | some (.ins C fs) => match G.clss.lookup C with
        | some c => R.iff (c.flds.contains x && Nat.blt fs.length 900) (put f.base a cs (.ins C (fPut x v fs)) v.pure)
        | none => .bad
      | _ => .bad) st fun _ cs => .nx st cs) := run
    cases ec : cs[a]? with
    | none => simp only [ec] at run; exact run.elim
    | some ob =>
      cases ob with
      | lst xs => simp only [ec] at run; exact run.elim
      | dct xs => simp only [ec] at run; exact run.elim
      | ins C fs =>
        simp only [ec] at run
        cases hc : G.clss.lookup C with
        | none => simp only [hc] at run; exact run.elim
        | some c =>
          simp only [hc] at run
          cases eb : (c.flds.contains x && Nat.blt fs.length 900) with
          | false => rw [eb] at run; exact run.elim
          | true =>
            rw [eb] at run
            obtain ⟨e1, e2⟩ := and2 eb
            have e2 : fs.length < 900 := Nat.le_of_ble_eq_true e2
            obtain ⟨dx, gs, hp, hd, hFd, hr⟩ := (hh.cell a _ ec).1
            obtain ⟨hok, run⟩ := put_some (Rp := rV X.K) (α := Val) (β := V) (σ := σ) run
            refine ⟨w.i a, _, dx, gs, rfl, hp, (hC C c hc).cls, hF C c hc x e1, by rw [← hr.length]; omega, ?_⟩
            have hne : dx ≠ w.i a := fun q => by
              rw [q, hp] at hd
              cases hd
            refine run w σ _ .rfl hs (hh.wr ec ⟨dx, putF x z gs, upd_same, by rw [upd_ne hne]; exact hd, hFd, hr.put rv⟩ rfl ?_)
            exact clean_put (w := w) (cs := cs) (H := H) hf.top hok fun hp b hb hab => undrF_put (pure_undr b v hp) (hh.clean b hb a _ hab ec)
  | _ => exact run.elim
theorem sd_setA (hC : ClssOk X.K G) (hF : FldsOk X.K G) (hf : f.Ok) {x : Str} {pos' : Pos} (ho : PE X o (TV X f.Bs W (evE G cl f.base co))) (he : PE X e (TV X f.Bs W (evE G cl f.base c))) (hs : swapsWith e (some (.Attribute o x pos')) pos.line X.env = pure false) :
    PS X (.Assign [.Attribute o x pos'] e pos) (TM1 X f W G cl (.setA co x c)) := by
  refine PS.imp (ps_fld ho he hs) fun D σ H h => TSm.ofR (k := fun s v cs => SR.ofR (evE G cl f.base co s cs) s fun o cs => SR.ofR (setFd G f.base cs o x v) s fun _ cs => .nx s cs) h fun w s v y cs H1 hs hh r run => ?_
  exact ⟨w, s, cs, hs, hh, run.ofR hs fun w2 ov y2 cs2 H2 l hh2 ro run2 => setFd_run hC hF hf (hs.mono l) hh2 ro (r.mono l) run2⟩
theorem sd_augA (hC : ClssOk X.K G) (hF : FldsOk X.K G) (hf : f.Ok) {x : Str} {tpos : Pos} {op : Operator} (ho : PE X o (TV X f.Bs W (evE G cl f.base co))) (he : PE X e (TV X f.Bs W (evE G cl f.base c))) (hop : op = .Add) :
    PS X (.AugAssign (.Attribute o x tpos) op e pos) (TM1 X f W G cl (.augA co x op c)) := by
  subst hop
  refine PS.imp (ps_fldaug ho he in_add) fun D σ H h => TSm.ofR (k := fun s o cs0 => SR.ofO (attV G cs0 o x) fun u => SR.ofR (evE G cl f.base c s cs0) s fun v cs => SR.ofO (if (insOf cs0 o).map (·.1) = (insOf cs o).map (·.1) then augI .Add u v else none) fun k => SR.ofR (setFd G f.base cs o x (.int k)) s fun _ cs => .nx s cs) h fun w s ov y cs H1 hs hh ro run => ?_
  obtain ⟨u, eu, run⟩ := run.ofO
  obtain ⟨C, fs, c, hi, hc, hff, hl⟩ := attV_some eu
  obtain ⟨p, dx, gs, rfl, hp, hdx, hr⟩ := hh.ins_ ro hi
  rcases hr.look (f := x) with ⟨h1, _⟩ | ⟨a, b, h1, h2, h3⟩
  · rw [hl] at h1
    cases h1
  · rw [hl] at h1
    cases h1
    refine ⟨p, _, dx, gs, b, rfl, hp, (hC C c hc).cls, hF C c hc x hff, h2, w, s, cs, hs, hh, run.ofR hs fun w2 v y2 cs2 H2 l hh2 rv run2 => ?_⟩
    obtain ⟨kk, ek, run2⟩ := run2.ofO
    split at ek
    · rename_i hcls
      have hi2 : ∃ fs2, insOf cs2 ov = some (C, fs2) := by
        rw [hi] at hcls
        cases e2 : insOf cs2 ov with
        | none => rw [e2] at hcls; cases hcls
        | some q =>
          rw [e2] at hcls
          have hcls := Option.some.inj hcls
          exact ⟨q.2, by rw [show C = q.1 from hcls]⟩
      obtain ⟨fs2, hi2⟩ := hi2
      obtain ⟨p2, dx2, gs2, e1, hp2, _, _⟩ := hh2.ins_ (ro.mono l) hi2
      cases e1
      unfold augI at ek
      split at ek
      · rename_i i j _
        cases ek
        cases h3
        cases rv
        refine ⟨_, _, rfl, rfl, ?_⟩
        obtain ⟨a, C', dx', fs', e1, e2, e3, e4, e5, e6⟩ := setFd_run hC hF hf (hs.mono l) hh2 (ro.mono l) (.int _) run2
        cases e1
        rw [hp2] at e2
        cases e2
        exact ⟨_, _, hp2, e5, e6⟩
      · cases ek
    · cases ek
end
end EV
/-! SdL: built-in functions and types called. -/
namespace EV
open PySem PySem.Spec PyProof.Rows L2

/-! ### sorted texts -/
theorem ltCps_eq : ∀ a b : List Nat, ltCps a b = ltS a b
  | [], [] => rfl
  | [], _ :: _ => rfl
  | _ :: _, [] => rfl
  | x :: xs, y :: ys => by
    unfold ltCps ltS
    rw [ltCps_eq xs ys]
    first
      | rfl
      | (by_cases h1 : x < y
         · simp [h1]
         · by_cases h2 : y < x
           · have : ¬ x = y := by omega
             simp [h1, h2, this]
           · have : x = y := by omega
             simp [h1, h2, this])
theorem ltS_lt (a b : List Nat) : ltS a b = true ↔ a < b := by rw [ltS_eq, decide_eq_true_iff]
theorem ltS_ff (a b : List Nat) : ltS a b = false ↔ b ≤ a := by
  rw [ltS_eq, decide_eq_false_iff_not]
  exact List.not_lt
theorem ins_perm (x : List Nat) : ∀ l, (insS x l).Perm (x :: l)
  | [] => .refl _
  | y :: r => by
    unfold insS
    split
    · exact ((ins_perm x r).cons y).trans (.swap x y r)
    · exact .refl _
theorem sortS_perm : ∀ l, (sortS l).Perm l
  | [] => .refl _
  | x :: r => (ins_perm x (sortS r)).trans ((sortS_perm r).cons x)
theorem ins_mem {x y : List Nat} {l : List (List Nat)} (h : y ∈ insS x l) : y = x ∨ y ∈ l := by
  have := (ins_perm x l).mem_iff.mp h
  rcases List.mem_cons.mp this with z | z
  · exact .inl z
  · exact .inr z
theorem ins_sorted (x : List Nat) : ∀ l : List (List Nat), l.Pairwise (· ≤ ·) → (insS x l).Pairwise (· ≤ ·)
  | [], _ => List.pairwise_singleton _ _
  | y :: r, h => by
    rw [List.pairwise_cons] at h
    unfold insS
    split
    · rename_i hl
      rw [List.pairwise_cons]
      refine ⟨fun z hz => ?_, ins_sorted x r h.2⟩
      rcases ins_mem hz with e | e
      · rw [e]
        exact List.le_of_lt ((ltS_lt y x).mp hl)
      · exact h.1 z e
    · rename_i hl
      have hxy : x ≤ y := (ltS_ff y x).mp (by simpa using hl)
      rw [List.pairwise_cons]
      refine ⟨fun z hz => ?_, List.pairwise_cons.mpr h⟩
      rcases List.mem_cons.mp hz with e | e
      · rw [e]
        exact hxy
      · exact List.le_trans hxy (h.1 z e)
theorem sortS_sorted : ∀ l, (sortS l).Pairwise (· ≤ ·)
  | [] => List.Pairwise.nil
  | x :: r => ins_sorted x _ (sortS_sorted r)
theorem rising_pw : ∀ (x : List Nat) (r : List (List Nat)), risingS (tS x) (r.map tS) = true → (x :: r).Pairwise (· ≤ ·)
  | x, [], _ => List.pairwise_singleton _ _
  | x, y :: r, h => by
    have h : (!ltCps y x && risingS (tS y) (r.map tS)) = true := h
    obtain ⟨h1, h2⟩ := and2 h
    have ih := rising_pw y r h2
    have hxy : x ≤ y := (ltS_ff y x).mp (by rw [← ltCps_eq]; simpa using h1)
    rw [List.pairwise_cons]
    refine ⟨fun z hz => ?_, ih⟩
    rcases List.mem_cons.mp hz with e | e
    · rw [e]
      exact hxy
    · exact List.le_trans hxy ((List.pairwise_cons.mp ih).1 z e)
theorem sorted_is {ys : List Str} {ss : List (List Nat)} (hp : ys.Perm (ss.map tS)) (hs : sortedS ys = true) : ys = (sortS ss).map tS := by
  have e1 : ∃ zs : List (List Nat), ys = zs.map tS := ⟨ys.map fun y => y.cps.toList, by
    rw [List.map_map]
    have : (tS ∘ fun y : Str => y.cps.toList) = id := by
      funext y
      rfl
    rw [this, List.map_id]⟩
  obtain ⟨zs, rfl⟩ := e1
  have hp2 : zs.Perm ss := by
    have := hp.map fun y : Str => y.cps.toList
    rw [List.map_map, List.map_map] at this
    have e2 : ((fun y : Str => y.cps.toList) ∘ tS) = id := by
      funext y
      rfl
    rwa [e2, List.map_id, List.map_id] at this
  have hz : zs.Pairwise (· ≤ ·) := by
    cases zs with
    | nil => exact List.Pairwise.nil
    | cons x r => exact rising_pw x r hs
  have : zs = sortS ss := List.Perm.eq_of_pairwise (le := fun a b : List Nat => a ≤ b) (fun a b _ _ h h' => List.le_antisymm h h') hz (sortS_sorted ss) (hp2.trans (sortS_perm ss).symm)
  rw [this]

/-! ### values -/
def bltU : Bn → Value
  | .len => .builtin "len"
  | .all => .builtin "all"
  | .tuple => .type "tuple"
  | .list => .type "list"
  | .sorted => .builtin "sorted"
  | .int => .type "int"
  | .abs => .builtin "abs"
  | .max => .builtin "max"
  | .min => .builtin "min"
  | .sum => .builtin "sum"
  | .repr => .builtin "repr"
  | .str => .type "str"
  | .dict => .type "dict"
def rBlt (X : Cx) (Bs : BX) (b : Bn) : List V → Hp → VK → Prop := fun ys H Q => ∃ w cs vs z, HRel X.K w Bs cs H ∧ RepL X.K w vs ys ∧ bltV cs b vs = some z ∧ Wants X Bs w cs Q z
section
variable {X : Cx} {Bs : BX}
theorem RepL.one_ {K : Fg} {w : Wd} {v : Val} {ys : List V} (r : RepL K w [v] ys) : ∃ y, ys = [y] ∧ RepV K w v y := by
  cases r with
  | cons h t =>
    cases t
    exact ⟨_, rfl, h⟩
theorem RepL.two_ {K : Fg} {w : Wd} {v u : Val} {ys : List V} (r : RepL K w [v, u] ys) : ∃ y z, ys = [y, z] ∧ RepV K w v y ∧ RepV K w u z := by
  cases r with
  | cons h t =>
    obtain ⟨z, rfl, h2⟩ := t.one_
    exact ⟨_, _, rfl, h, h2⟩
theorem cb_len : CallR X (.builtin "len") (rBlt X Bs .len) := by
  intro pins s σ H ys us Q I r ⟨w, cs, vs, z, hh, rv, e0, q⟩
  have hq : ∀ v, vs = [v] → (match seqOf cs v with
      | some xs => some (.int xs.length)
      | none => (dctOf cs v).map fun kvs => Val.int kvs.length) = some z → wpAny (model X.prog X.w) X.A (call (.builtin "len") us) (EP X pins σ Q) X.xe s := by
    intro v ev e
    subst ev
    obtain ⟨y, rfl, ry⟩ := rv.one_
    cases es : seqOf cs v with
    | some xs =>
      rw [es] at e
      cases e
      obtain ⟨p, ys, rfl, hp, hr⟩ := hh.seq_ ry es
      refine call_len_seq pins s σ H _ us Q I r ⟨p, ys, rfl, hp.symm, ?_⟩
      rw [← hr.length]
      exact q.here hh (.int _) rfl
    | none =>
      rw [es] at e
      cases ed : dctOf cs v with
      | none => rw [ed] at e; cases e
      | some kvs =>
        rw [ed] at e
        cases e
        obtain ⟨p, ds, rfl, hp, hr⟩ := hh.dct_ ry ed
        cases r with
        | cons r1 r2 =>
          cases r2
          cases r1
          refine d_len I hp fun t s' I' => ⟨.int ds.length, H, I', ⟨t, rfl⟩, ?_⟩
          rw [← hr.length]
          exact q.here hh (.int _) rfl
  unfold bltV at e0
  simp only at e0
  split at e0
  · rename_i st
    obtain ⟨y, rfl, ry⟩ := rv.one_
    cases ry
    by_cases hz : sizeOk st.length = true
    · rw [if_pos hz] at e0
      cases e0
      refine call_len_str pins s σ H _ us Q I r ⟨tS st, rfl, by rw [tS_len]; exact line_of hz, ?_⟩
      rw [tS_len]
      exact q.here hh (.int _) rfl
    · rw [if_neg hz] at e0
      cases e0
  · rename_i xs
    obtain ⟨y, rfl, ry⟩ := rv.one_
    cases e0
    cases ry with
    | scr hq =>
      refine call_len_seq pins s σ H _ us Q I r ⟨_, _, rfl, .inl (sqL_mono hh.fr hq), ?_⟩
      rw [List.length_map]
      exact q.here hh (.int _) rfl
  · exact hq _ rfl e0
  · cases e0
theorem cb_all (hc : X.calm = true) : CallR X (.builtin "all") (rBlt X Bs .all) := by
  intro pins s σ H ys us Q I r ⟨w, cs, vs, z, hh, rv, e, q⟩
  unfold bltV at e
  simp only at e
  split at e
  · rename_i v
    obtain ⟨y, rfl, ry⟩ := rv.one_
    cases el : lstOf cs v with
    | none => simp [el] at e
    | some xs =>
      cases eb : blsOf xs with
      | none => simp [el, eb] at e
      | some bs =>
        simp only [el, Option.bind_some, eb] at e
        cases e
        obtain ⟨p, ys, rfl, hp, hr⟩ := hh.lst_ ry el
        have := hr.bls eb
        subst this
        exact cr_all hc pins s σ H _ us Q I r ⟨p, bs, rfl, SqL.of hp, q.here hh (.bl _) rfl⟩
  · cases e
theorem cb_sum (hc : X.calm = true) : CallR X (.builtin "sum") (rBlt X Bs .sum) := by
  intro pins s σ H ys us Q I r ⟨w, cs, vs, z, hh, rv, e, q⟩
  unfold bltV at e
  simp only at e
  split at e
  · rename_i v
    obtain ⟨y, rfl, ry⟩ := rv.one_
    cases el : lstOf cs v with
    | none => simp [el] at e
    | some xs =>
      cases eb : intsOf xs with
      | none => simp [el, eb] at e
      | some bs =>
        simp only [el, Option.bind_some, eb] at e
        cases e
        obtain ⟨p, ys, rfl, hp, hr⟩ := hh.lst_ ry el
        have := hr.ints eb
        subst this
        exact cr_sum hc pins s σ H _ us Q I r ⟨p, bs, rfl, SqL.of hp, q.here hh (.int _) rfl⟩
  · cases e
theorem cb_tuple : CallR X (.type "tuple") (rBlt X Bs .tuple) := by
  intro pins s σ H ys us Q I r ⟨w, cs, vs, z, hh, rv, e, q⟩
  unfold bltV at e
  simp only at e
  split at e
  · rename_i v
    obtain ⟨y, rfl, ry⟩ := rv.one_
    cases et : tupOf v with
    | some xs =>
      have es : seqOf cs v = some xs := by unfold seqOf; rw [et]
      rw [es] at e
      cases e
      obtain ⟨p, ys, rfl, hp, hr⟩ := hh.tup_ ry et
      refine call_tuple_of pins s σ H _ us Q I r ⟨p, ys, rfl, .inr ⟨hp, ?_⟩⟩
      have ev : v = .tup xs := by
        cases v <;> first | (cases et; rfl) | cases et
      rw [← ev] at q
      exact q.here hh ry (by rw [ev]; rfl)
    | none =>
      have es : seqOf cs v = lstOf cs v := by unfold seqOf; rw [et]
      rw [es] at e
      cases el : lstOf cs v with
      | none => simp [el] at e
      | some xs =>
        rw [el] at e
        cases e
        obtain ⟨p, ys, rfl, hp, hr⟩ := hh.lst_ ry el
        exact call_tuple_of pins s σ H _ us Q I r ⟨p, ys, rfl, .inl ⟨SqL.of hp, q.tup hh hr⟩⟩
  · cases e
theorem cb_list : CallR X (.type "list") (rBlt X Bs .list) := by
  intro pins s σ H ys us Q I r ⟨w, cs, vs, z, hh, rv, e, q⟩
  unfold bltV at e
  simp only at e
  split at e
  · rename_i v
    obtain ⟨y, rfl, ry⟩ := rv.one_
    cases es : seqOf cs v with
    | none => simp [es] at e
    | some xs =>
      rw [es] at e
      cases e
      obtain ⟨p, ys, rfl, hp, hr⟩ := hh.seq_ ry es
      exact call_list_of pins s σ H _ us Q I r ⟨p, ys, rfl, hp.symm, q.lst hh hr⟩
  · cases e
theorem cb_int : CallR X (.type "int") (rBlt X Bs .int) := by
  intro pins s σ H ys us Q I r ⟨w, cs, vs, z, hh, rv, e, q⟩
  unfold bltV at e
  simp only at e
  split at e
  · obtain ⟨y, rfl, ry⟩ := rv.one_
    cases e
    cases ry
    exact call_int1 pins s σ H _ us Q I r (.inl ⟨_, rfl, q.here hh (.int _) rfl⟩)
  · obtain ⟨y, rfl, ry⟩ := rv.one_
    cases e
    cases ry
    exact call_int1 pins s σ H _ us Q I r (.inr ⟨_, rfl, q.here hh (.int _) rfl⟩)
  · cases e
theorem cb_abs : CallR X (.builtin "abs") (rBlt X Bs .abs) := by
  intro pins s σ H ys us Q I r ⟨w, cs, vs, z, hh, rv, e, q⟩
  unfold bltV at e
  simp only at e
  split at e
  · obtain ⟨y, rfl, ry⟩ := rv.one_
    cases e
    cases ry
    exact call_abs pins s σ H _ us Q I r ⟨_, rfl, q.here hh (.int _) rfl⟩
  · cases e
theorem cb_max (hc : X.calm = true) : CallR X (.builtin "max") (rBlt X Bs .max) := by
  intro pins s σ H ys us Q I r ⟨w, cs, vs, z, hh, rv, e, q⟩
  unfold bltV at e
  simp only at e
  split at e
  · obtain ⟨y, y2, rfl, ry, ry2⟩ := rv.two_
    cases e
    cases ry
    cases ry2
    exact call_max2 hc pins s σ H _ us Q I r ⟨_, _, rfl, q.here hh (.int _) rfl⟩
  · cases e
theorem cb_min (hc : X.calm = true) : CallR X (.builtin "min") (rBlt X Bs .min) := by
  intro pins s σ H ys us Q I r ⟨w, cs, vs, z, hh, rv, e, q⟩
  unfold bltV at e
  simp only at e
  split at e
  · obtain ⟨y, y2, rfl, ry, ry2⟩ := rv.two_
    cases e
    cases ry
    cases ry2
    exact call_min2 hc pins s σ H _ us Q I r ⟨_, _, rfl, q.here hh (.int _) rfl⟩
  · cases e
theorem cb_str : CallR X (.type "str") (rBlt X Bs .str) := by
  intro pins s σ H ys us Q I r ⟨w, cs, vs, z, hh, rv, e, q⟩
  unfold bltV at e
  simp only at e
  split at e
  · rename_i i
    obtain ⟨y, rfl, ry⟩ := rv.one_
    cases ry
    by_cases hz : bits i < 1920
    · rw [if_pos hz] at e
      cases e
      refine call_str_int pins s σ H _ us Q I r ⟨i, rfl, hz, ?_⟩
      have := q.here hh (.str _) rfl
      have e2 : tS ((Str.ofString (toString i)).cps.toList) = (toString i : Str) := by
        show (⟨_⟩ : Str) = _
        rw [Array.toArray_toList]
      rw [e2] at this
      exact this
    · rw [if_neg hz] at e
      cases e
  · obtain ⟨y, rfl, ry⟩ := rv.one_
    cases e
    cases ry
    exact SkE.call_str_str pins s σ H _ us Q I r ⟨_, rfl, q.here hh (.str _) rfl⟩
  · cases e
theorem RepL.ofStrs' {K : Fg} {w : Wd} (ss : List (List Nat)) : RepL K w (ss.map .str) ((ss.map tS).map V.str) := by
  rw [List.map_map]
  exact RepL.ofStrs ss
theorem keys_strs {K : Fg} {w : Wd} : ∀ {kvs : List (Val × Val)} {ds : List (Key × V)} {ss : List (List Nat)}, RepD K w kvs ds → strsOf (kvs.map (·.1)) = some ss → ds.map (·.1) = (ss.map tS).map Sum.inr
  | _, _, ss, .nil, es => by
    cases es
    rfl
  | _, _, ss, .cons (k := k) (xs := xs) hk h r, es => by
    cases k with
    | str a =>
      have es : (strsOf (xs.map (·.1))).map (a :: ·) = some ss := es
      cases e2 : strsOf (xs.map (·.1)) with
      | none => rw [e2] at es; cases es
      | some l =>
        rw [e2] at es
        cases es
        cases hk
        rw [List.map_cons, keys_strs r e2]
        rfl
    | int a => cases es
    | _ => cases hk
theorem cb_sorted (hc : X.calm = true) : CallR X (.builtin "sorted") (rBlt X Bs .sorted) := by
  intro pins s σ H ys us Q I r ⟨w, cs, vs, z, hh, rv, e, q⟩
  unfold bltV at e
  simp only at e
  split at e
  · rename_i v
    obtain ⟨y, rfl, ry⟩ := rv.one_
    cases el : lstOf cs v with
    | some xs =>
      simp only [el] at e
      cases es : strsOf xs with
      | none => simp [es] at e
      | some ss =>
        simp only [es] at e
        by_cases hz : ss.length < 64
        · rw [if_pos hz] at e
          cases e
          obtain ⟨p, ys, rfl, hp, hr⟩ := hh.lst_ ry el
          have ey := hr.strs es
          subst ey
          refine cr_sortedS pins s σ H _ us Q I r ⟨p, ss.map tS, rfl, SqL.of (by rw [List.map_map]; exact hp), by rw [List.length_map]; exact hz, fun zs p2 h1 h2 h3 => ?_⟩
          rw [sorted_is h1 h2]
          exact q.lst hh (.ofStrs' _) p2 h3
        · rw [if_neg hz] at e
          cases e
    | none =>
      simp only [el] at e
      cases ed : dctOf cs v with
      | none => simp [ed] at e
      | some kvs =>
        simp only [ed] at e
        cases es : strsOf (kvs.map (·.1)) with
        | none => simp [es] at e
        | some ss =>
          simp only [es] at e
          by_cases hz : ss.length < 64
          · rw [if_pos hz] at e
            cases e
            obtain ⟨p, ds, rfl, hp, hr⟩ := hh.dct_ ry ed
            have hk : ds.map (·.1) = (ss.map tS).map Sum.inr := keys_strs hr es
            refine call_sortedD hc pins s σ H _ us Q I r ⟨p, ds, ss.map tS, rfl, hp, hk, by rw [List.length_map]; exact hz, fun zs p2 h1 h2 h3 => ?_⟩
            rw [sorted_is h1 h2]
            exact q.lst hh (.ofStrs' _) p2 h3
          · rw [if_neg hz] at e
            cases e
  · cases e
end
end EV
/-! SdM: built-in calls and built-in methods as expressions. -/
namespace EV
open PySem PySem.Spec PyProof.Rows L2

section
variable {X : Cx} {Bs : BX} {W : WX} {G : Gl} {cl : CallF} {base : Nat} {pos : Pos} {e o : Expr} {es : List Expr} {co : E} {ces : Es}
theorem bltC_of {b : Bn} {vs : List Val} {cs : Cells} (hn : NoSp G) : bltC G cl base b vs cs = .bad ∨ bltC G cl base b vs cs = R.of (bltV cs b vs) cs := by
  unfold bltC
  split
  · rename_i v _
    rw [spc_bad fun C c h => (hn C c h).2]
    exact .inl rfl
  · exact .inr rfl
theorem sd_blt {b : Bn} {x : Str} {p : Pos} (hn : NoSp G) (hcr : CallR X (bltU b) (rBlt X Bs b)) (hg : L2.Gl X x) (hm : X.mg x = none) (hv : bootBuiltins x = some (bltU b)) (ha : PA X (e :: es) (TL X Bs W (evEs G cl base ces)))
    (hx : x ≠ "__name__") (hdb : (x == ("__debug__" : Str)) = false) (he : starEach (e :: es) X.env = (false, eval e X.env) :: starEach es X.env) (hpl : (backTo pos (starEach es X.env)).any (·.1) = false) :
    PE X (.Call (.Name x p) (e :: es) [] pos) (TN X Bs W (evE G cl base (.blt b ces))) := by
  have hpe : PE X (.Call (.Name x p) (e :: es) [] pos) (tCB (rBlt X Bs b) (TL X Bs W (evEs G cl base ces))) := by
    cases b with
    | tuple => exact pe_callTy hcr hg hm hv ha hx hdb he hpl
    | list => exact pe_callTy hcr hg hm hv ha hx hdb he hpl
    | int => exact pe_callTy hcr hg hm hv ha hx hdb he hpl
    | str => exact pe_callTy hcr hg hm hv ha hx hdb he hpl
    | dict => exact pe_callTy hcr hg hm hv ha hx hdb he hpl
    | len => exact pe_callB hcr hg hm hv ha hx hdb he hpl
    | all => exact pe_callB hcr hg hm hv ha hx hdb he hpl
    | sorted => exact pe_callB hcr hg hm hv ha hx hdb he hpl
    | abs => exact pe_callB hcr hg hm hv ha hx hdb he hpl
    | max => exact pe_callB hcr hg hm hv ha hx hdb he hpl
    | min => exact pe_callB hcr hg hm hv ha hx hdb he hpl
    | sum => exact pe_callB hcr hg hm hv ha hx hdb he hpl
    | repr => exact pe_callB hcr hg hm hv ha hx hdb he hpl
  refine PE.imp hpe fun σ H Q h => T.bind (g := fun _ vs cs => bltC G cl base b vs cs) h fun w s vs xs cs H1 hs hh r run => ?_
  rcases bltC_of (cl := cl) (base := base) (b := b) (vs := vs) (cs := cs) hn with e | e
  · rw [e] at run
    exact run.elim
  · rw [e] at run
    obtain ⟨z, ez, run⟩ := run.some_
    exact ⟨w, cs, vs, z, hh, r, ez, fun w' x' H' l h' r' => run w' x' H' l h' r'⟩

/-! ### methods -/
def Mn.T (m : Mn) : String := match m.mt with
  | .s => "str"
  | .l => "list"
  | .d => "dict"
/-- a method's answer -/
def rBm (X : Cx) (Bs : BX) (base : Nat) (m : Mn) : V → List V → Hp → VK → Prop := fun x ys H Q => ∃ w cs v vs W0 σ0, HRel X.K w Bs cs H ∧ RepV X.K w v x ∧ RepL X.K w vs ys ∧ Run X.K Bs (rN X.K) W0 σ0 w Q (bltM base cs v m vs)
theorem ofS_rep {K : Fg} {w : Wd} (s : Str) : RepV K w (ofS s) (.str s) := .str s.cps.toList
theorem repS {K : Fg} {w : Wd} (l : List Str) : RepL K w (l.map ofS) (l.map V.str) := by
  induction l with
  | nil => exact .nil
  | cons a l ih => exact .cons (ofS_rep a) ih
theorem run_wants {W0 : WX} {σ0 : L2.St} {w : Wd} {cs : Cells} {Q : VK} {z : Val} (h : Run X.K Bs (rN X.K) W0 σ0 w Q (.ok z cs)) : Wants X Bs w cs Q z := fun w' x' H' l h' r' => h w' x' H' l h' r'
theorem notEmpty_len {p : List Nat} (h : p.isEmpty = false) : ((tS p).length == 0) = false := by
  cases p with
  | nil => cases h
  | cons a r =>
    rw [tS_len]
    rfl
theorem bm_str {id : String} {m : Mn} (hmt : m.mt = .s) (hm : ∀ (pins : List (Addr × Obj)) (s : Shared) (σ : L2.St) (H : Hp) (xs : List V) (v : Value) (us : List Value) (Q : VK) (w : Wd) (cs : Cells) (st : List Nat) (vs : List Val) (z : Val), Inv X pins σ H s → RelV (.str (tS st)) v → Vals xs us → HRel X.K w Bs cs H →
      RepL X.K w vs xs → strM cs st m vs = some z → Wants X Bs w cs Q z → wpAny (model X.prog X.w) X.A (call (.builtin id) (v :: us)) (EP X pins σ Q) X.xe s) : MtR X id (rBm X Bs base m) := by
  intro pins s σ H x xs v us Q I rx rs ⟨w, cs, u, vs, W0, σ0, hh, ru, rv, run⟩
  unfold bltM at run
  rw [hmt] at run
  cases ru with
  | str st =>
    have run : Run X.K Bs (rN X.K) W0 σ0 w Q (R.of (strM cs st m vs) cs) := run
    obtain ⟨z, ez, run⟩ := run.some_
    exact hm pins s σ H xs v us Q w cs st vs z I rx rs hh rv ez (run_wants run)
  | _ => exact run.elim
theorem mb_partition : MtR X "str.partition" (rBm X Bs base .partition) := bm_str rfl fun pins s σ H xs v us Q w cs st vs z I rx rs hh rv e q => by
  unfold strM at e
  simp only at e
  split at e
  · rename_i p
    obtain ⟨y, rfl, ry⟩ := rv.one_
    cases ry
    split at e
    · cases e
    · rename_i hp
      split at e
      · rename_i hz
        cases e
        exact mt_partition pins s σ H _ _ v us Q I rx rs ⟨tS st, tS p, rfl, rfl, notEmpty_len (by simpa using hp), by rw [tS_len]; exact line_of hz, q.tup hh (.cons (ofS_rep _) (.cons (ofS_rep _) (.cons (ofS_rep _) .nil)))⟩
      · cases e
  · cases e
theorem mb_split : MtR X "str.split" (rBm X Bs base .split) := bm_str rfl fun pins s σ H xs v us Q w cs st vs z I rx rs hh rv e q => by
  unfold strM at e
  simp only at e
  split at e
  · rename_i p
    obtain ⟨y, rfl, ry⟩ := rv.one_
    cases ry
    split at e
    · cases e
    · rename_i hp
      split at e
      · rename_i hz
        cases e
        exact mt_split pins s σ H _ _ v us Q I rx rs ⟨tS st, tS p, rfl, rfl, notEmpty_len (by simpa using hp), by rw [tS_len]; exact line_of hz, q.lst hh (repS _)⟩
      · cases e
  · cases e
theorem mb_startswith : MtR X "str.startswith" (rBm X Bs base .startswith) := bm_str rfl fun pins s σ H xs v us Q w cs st vs z I rx rs hh rv e q => by
  unfold strM at e
  simp only at e
  split at e
  · obtain ⟨y, rfl, ry⟩ := rv.one_
    cases ry
    cases e
    exact mt_startswith pins s σ H _ _ v us Q I rx rs ⟨_, _, rfl, rfl, q.here hh (.bl _) rfl⟩
  · cases e
theorem mb_endswith : MtR X "str.endswith" (rBm X Bs base .endswith) := bm_str rfl fun pins s σ H xs v us Q w cs st vs z I rx rs hh rv e q => by
  unfold strM at e
  simp only at e
  split at e
  · obtain ⟨y, rfl, ry⟩ := rv.one_
    cases ry
    cases e
    exact mt_endswith pins s σ H _ _ v us Q I rx rs ⟨_, _, rfl, rfl, q.here hh (.bl _) rfl⟩
  · cases e
theorem mb_rstrip : MtR X "str.rstrip" (rBm X Bs base .rstrip) := bm_str rfl fun pins s σ H xs v us Q w cs st vs z I rx rs hh rv e q => by
  unfold strM at e
  simp only at e
  split at e
  · obtain ⟨y, rfl, ry⟩ := rv.one_
    cases ry
    split at e
    · rename_i hz
      cases e
      exact mt_rstripChars pins s σ H _ _ v us Q I rx rs ⟨_, _, rfl, rfl, by rw [tS_len]; exact line_of hz, q.here hh (ofS_rep _) rfl⟩
    · cases e
  · cases e
theorem mb_index : MtR X "str.index" (rBm X Bs base .index) := bm_str rfl fun pins s σ H xs v us Q w cs st vs z I rx rs hh rv e q => by
  unfold strM at e
  simp only at e
  split at e
  · obtain ⟨y, rfl, ry⟩ := rv.one_
    cases ry
    split at e
    · rename_i ho
      cases e
      exact mt_sindex pins s σ H _ _ v us Q I rx rs ⟨_, _, _, _, rfl, rfl, ho, q.here hh (.int _) rfl⟩
    · cases e
  · cases e
theorem mb_join : MtR X "str.join" (rBm X Bs base .join) := bm_str rfl fun pins s σ H xs v us Q w cs st vs z I rx rs hh rv e q => by
  unfold strM at e
  simp only at e
  split at e
  · rename_i u
    obtain ⟨y, rfl, ry⟩ := rv.one_
    split at e
    · rename_i l es
      unfold joinV at e
      split at e
      · rename_i ss hss
        split at e
        · rename_i hz
          cases e
          obtain ⟨p, ys, rfl, hp, hr⟩ := hh.seq_ ry es
          have ey := hr.strs hss
          subst ey
          refine mt_join pins s σ H _ _ v us Q I rx rs ⟨tS st, p, ss.map tS, rfl, rfl, ?_, ?_, q.here hh (ofS_rep _) rfl⟩
          · rw [List.map_map]
            exact hp.symm
          · rw [List.map_map, List.length_map, tS_len]
            have : (List.length ∘ fun s : List Nat => s) = List.length := rfl
            have e2 : ((fun s : Str => s.length) ∘ tS) = fun s : List Nat => s.length := by
              funext s
              exact tS_len s
            rw [show (Str.length ∘ tS) = fun s : List Nat => s.length from e2]
            exact hz
        · cases e
      · cases e
    · cases e
  · cases e

/-! ### lists' methods -/
theorem bmL {W0 : WX} {σ0 : L2.St} {α : Type} {Rp : RP Val α} {w : Wd} {cs : Cells} {a : Nat} {m : Mn} {vs : List Val} {Q : α → Hp → Prop} {xs : List Val} (hm : m.mt = .l) (ec : cs[a]? = some (.lst xs)) (run : Run X.K Bs Rp W0 σ0 w Q (bltM base cs (.ref a) m vs)) :
    Run X.K Bs Rp W0 σ0 w Q (lstM base a cs xs m vs) := by
  unfold bltM at run
  rw [hm] at run
  simp only [ec] at run
  exact run
theorem put_ok {W0 : WX} {σ0 : L2.St} {w : Wd} {cs : Cells} {a : Nat} {o : Ob} {b : Bool} {Q : VK} (h : Run X.K Bs (rN X.K) W0 σ0 w Q (put base a cs o b)) : (base ≤ a ∨ b = true) ∧ Run X.K Bs (rN X.K) W0 σ0 w Q (.ok .non (cs.set a o)) := by
  unfold put at h
  obtain ⟨e, h⟩ := h.iff_
  rw [Bool.or_eq_true] at e
  exact ⟨e.imp Nat.le_of_ble_eq_true id, h⟩
theorem mb_append (top : ∀ b ∈ Bs, b ≤ base) : MtR X "list.append" (fun x ys H Q => ∃ w cs a vs W0 σ0, HRel X.K w Bs cs H ∧ RepV X.K w (.ref a) x ∧ RepL X.K w vs ys ∧ (∃ xs, cs[a]? = some (.lst xs)) ∧ Run X.K Bs (rN X.K) W0 σ0 w Q (bltM base cs (.ref a) .append vs)) := by
  intro pins s σ H x ys v us Q I rx rs ⟨w, cs, a, vs, W0, σ0, hh, ru, rv, ⟨xs, ec⟩, run⟩
  cases ru with
  | ref ha =>
    replace run := bmL rfl ec run
    unfold lstM at run
    simp only at run
    split at run
    · rename_i u
      obtain ⟨hz, run⟩ := run.iff_
      obtain ⟨hok, run⟩ := put_ok run
      obtain ⟨y, rfl, ry⟩ := rv.one_
      obtain ⟨zs, hp, hr⟩ := (hh.cell a _ ec).1
      refine mt_append pins s σ H _ _ v us Q I rx rs ⟨w.i a, zs, y, rfl, rfl, hp, ?_, ?_⟩
      · have := line_of hz
        rw [← hr.length]
        omega
      · refine run w .non _ .rfl (hh.wr ec ⟨_, upd_same, hr.append (.cons ry .nil)⟩ rfl ?_) .non
        exact clean_put (w := w) (cs := cs) (H := H) top hok fun hp b hb hab => undrL_append (hh.clean b hb a _ hab ec) (by show (u.undr b && true) = true; rw [pure_undr b u hp]; rfl)
    · exact run.elim
theorem mb_extend (top : ∀ b ∈ Bs, b ≤ base) : MtR X "list.extend" (fun x ys H Q => ∃ w cs a vs W0 σ0, HRel X.K w Bs cs H ∧ RepV X.K w (.ref a) x ∧ RepL X.K w vs ys ∧ (∃ xs, cs[a]? = some (.lst xs)) ∧ Run X.K Bs (rN X.K) W0 σ0 w Q (bltM base cs (.ref a) .extend vs)) := by
  intro pins s σ H x ys v us Q I rx rs ⟨w, cs, a, vs, W0, σ0, hh, ru, rv, ⟨xs, ec⟩, run⟩
  cases ru with
  | ref ha =>
    replace run := bmL rfl ec run
    unfold lstM at run
    simp only at run
    split at run
    · rename_i u
      split at run
      · rename_i l el
        obtain ⟨hz, run⟩ := run.iff_
        obtain ⟨hok, run⟩ := put_ok run
        obtain ⟨y, rfl, ry⟩ := rv.one_
        obtain ⟨p, ls, rfl, hpl, hrl⟩ := hh.lst_ ry el
        obtain ⟨zs, hp, hr⟩ := (hh.cell a _ ec).1
        refine mt_extend pins s σ H _ _ v us Q I rx rs ⟨w.i a, p, zs, ls, rfl, rfl, hp, hpl, by rw [← hr.length, ← hrl.length]; exact line_of hz, ?_⟩
        refine run w .non _ .rfl (hh.wr ec ⟨_, upd_same, hr.append hrl⟩ rfl ?_) .non
        exact clean_put (w := w) (cs := cs) (H := H) top hok fun hp b hb hab => undrL_append (hh.clean b hb a _ hab ec) (pureL_undr b _ hp)
      · exact run.elim
    · exact run.elim
theorem mb_pop (top : ∀ b ∈ Bs, b ≤ base) : MtR X "list.pop" (fun x ys H Q => ∃ w cs a vs W0 σ0, HRel X.K w Bs cs H ∧ RepV X.K w (.ref a) x ∧ RepL X.K w vs ys ∧ (∃ xs, cs[a]? = some (.lst xs)) ∧ Run X.K Bs (rV X.K) W0 σ0 w Q (bltM base cs (.ref a) .pop vs)) := by
  intro pins s σ H x ys v us Q I rx rs ⟨w, cs, a, vs, W0, σ0, hh, ru, rv, ⟨xs, ec⟩, run⟩
  cases ru with
  | ref ha =>
    replace run := bmL rfl ec run
    unfold lstM at run
    simp only at run
    split at run
    · split at run
      · rename_i u eu
        unfold put at run
        cases rv
        obtain ⟨zs, hp, hr⟩ := (hh.cell a _ ec).1
        rw [List.getLast?_eq_getElem?] at eu
        obtain ⟨b, hb, rb⟩ := hr.get eu
        cases eb : (Nat.ble base a || true) with
        | false => rw [eb] at run; exact run.elim
        | true =>
          rw [eb] at run
          refine mt_pop pins s σ H _ _ v us Q I rx rs ⟨w.i a, zs, b, rfl, rfl, hp, by rw [← hr.length]; exact hb, ?_⟩
          refine run w b _ .rfl (hh.wr ec ⟨_, upd_same, hr.dropLast⟩ rfl fun b hb hab => undrL_dropLast (hh.clean b hb a _ hab ec)) rb
      · exact run.elim
    · exact run.elim

/-! ### as expressions -/
theorem bm_run {m : Mn} {v : Val} {cs : Cells} {σ : L2.St} {w : Wd} {α : Type} {Rp : RP Val α} {Q : α → Hp → Prop} {r : R Val} (h : Run X.K Bs Rp W σ w Q (R.iff (bmOk cs v m) r)) : bmOk cs v m = true ∧ Run X.K Bs Rp W σ w Q r := Run.iff_ h
theorem sd_bmS {id : String} {name : Str} {m : Mn} {apos : Pos} (pa : PlainAttrs "str") (slot : Slot "str" name id) (hty : typeOf (.builtin id) = pure (.type "method_descriptor")) (hm : MtR X id (rBm X Bs base m)) (hmt : m.mt = .s) (ho : PE X o (TV X Bs W (evE G cl base co))) (ha : PA X (e :: es) (TL X Bs W (evEs G cl base ces)))
    (hbase : attributeBase o name X.env (eval o X.env) = eval o X.env)
    (hfew : ((backTo pos (starEach (e :: es) X.env)).all (fun x => !x.1) && (backToKw pos (keywordEach [] X.env)).all (fun x => x.1.isSome) && decide ((e :: es).length + ([] : List Keyword).length + (if ([] : List Keyword).isEmpty then 0 else 1) < 30)) = true)
    (hline : (apos.endLine == pos.line) = true) (hs : starEach (e :: es) X.env = (false, eval e X.env) :: starEach es X.env) (hplain : (backTo pos (starEach es X.env)).any (·.1) = false) :
    PE X (.Call (.Attribute o name apos) (e :: es) [] pos) (TN X Bs W (evE G cl base (.bm co m ces))) := by
  refine PE.imp (pe_bm pa slot hty hm ho ha hbase hfew hline hs hplain) fun σ H Q h => T.bind (g := fun s v cs => R.iff (bmOk cs v m) ((evEs G cl base ces s cs).bind fun vs cs => bltM base cs v m vs)) h fun w s v x cs H1 hs hh r run => ?_
  obtain ⟨hb, run⟩ := bm_run run
  refine ⟨?_, T.next hs hh run fun w2 vs xs cs2 H2 l hh2 r2 run2 => ⟨w2, cs2, v, vs, W, σ, hh2, r.mono l, r2, run2⟩⟩
  unfold bmOk at hb
  rw [hmt] at hb
  cases r with
  | str => rfl
  | _ => cases hb
theorem bmL_ok {w : Wd} {cs : Cells} {H : Hp} {v : Val} {x : V} {m : Mn} (hh : HRel X.K w Bs cs H) (hmt : m.mt = .l) (hb : bmOk cs v m = true) (r : RepV X.K w v x) : tyV X.K "list" x H ∧ ∃ a xs, v = .ref a ∧ cs[a]? = some (.lst xs) := by
  unfold bmOk at hb
  rw [hmt] at hb
  cases r with
  | @ref a ha =>
    simp only at hb
    split at hb
    · rename_i xs ec
      obtain ⟨ys, hp, _⟩ := (hh.cell a _ ec).1
      exact ⟨.inl ⟨rfl, ys, SqL.of hp⟩, a, xs, rfl, ec⟩
    · cases hb
  | _ => cases hb
theorem bltM_l {cs : Cells} {a : Nat} {m : Mn} {vs : List Val} {w : Wd} {σ : L2.St} {α : Type} {Rp : RP Val α} {Q : α → Hp → Prop} (hmt : m.mt = .l) (run : Run X.K Bs Rp W σ w Q (bltM base cs (.ref a) m vs)) : ∃ xs, cs[a]? = some (.lst xs) := by
  unfold bltM at run
  rw [hmt] at run
  simp only at run
  split at run
  · rename_i xs ec
    exact ⟨xs, ec⟩
  · exact run.elim
abbrev rBl (X : Cx) (Bs : BX) (base : Nat) (m : Mn) : V → List V → Hp → VK → Prop := fun x ys H Q => ∃ w cs a vs W0 σ0, HRel X.K w Bs cs H ∧ RepV X.K w (.ref a) x ∧ RepL X.K w vs ys ∧ (∃ xs, cs[a]? = some (.lst xs)) ∧ Run X.K Bs (rN X.K) W0 σ0 w Q (bltM base cs (.ref a) m vs)
theorem sd_bmL {id : String} {name : Str} {m : Mn} {apos : Pos} (pa : PlainAttrs "list") (slot : Slot "list" name id) (hty : typeOf (.builtin id) = pure (.type "method_descriptor")) (hm : MtR X id (rBl X Bs base m)) (hmt : m.mt = .l) (ho : PE X o (TV X Bs W (evE G cl base co))) (ha : PA X (e :: es) (TL X Bs W (evEs G cl base ces)))
    (hbase : attributeBase o name X.env (eval o X.env) = eval o X.env)
    (hfew : ((backTo pos (starEach (e :: es) X.env)).all (fun x => !x.1) && (backToKw pos (keywordEach [] X.env)).all (fun x => x.1.isSome) && decide ((e :: es).length + ([] : List Keyword).length + (if ([] : List Keyword).isEmpty then 0 else 1) < 30)) = true)
    (hline : (apos.endLine == pos.line) = true) (hs : starEach (e :: es) X.env = (false, eval e X.env) :: starEach es X.env) (hplain : (backTo pos (starEach es X.env)).any (·.1) = false) :
    PE X (.Call (.Attribute o name apos) (e :: es) [] pos) (TN X Bs W (evE G cl base (.bm co m ces))) := by
  refine PE.imp (pe_bm pa slot hty hm ho ha hbase hfew hline hs hplain) fun σ H Q h => T.bind (g := fun s v cs => R.iff (bmOk cs v m) ((evEs G cl base ces s cs).bind fun vs cs => bltM base cs v m vs)) h fun w s v x cs H1 hs hh r run => ?_
  obtain ⟨hb, run⟩ := bm_run run
  obtain ⟨ht, a, xs, rfl, _⟩ := bmL_ok hh hmt hb r
  exact ⟨ht, T.next hs hh run fun w2 vs xs cs2 H2 l hh2 r2 run2 => ⟨w2, cs2, a, vs, W, σ, hh2, r.mono l, r2, bltM_l hmt run2, run2⟩⟩
theorem sd_pop {apos : Pos} (top : ∀ b ∈ Bs, b ≤ base) (pa : PlainAttrs "list") (slot : Slot "list" "pop" "list.pop") (hty : typeOf (.builtin "list.pop") = pure (.type "method_descriptor")) (ho : PE X o (TV X Bs W (evE G cl base co))) (hbase : attributeBase o "pop" X.env (eval o X.env) = eval o X.env) (hline : (apos.endLine == pos.line) = true) :
    PE X (.Call (.Attribute o "pop" apos) [] [] pos) (TV X Bs W (evE G cl base (.bm co .pop .nil))) := by
  refine PE.imp (pe_bm0 pa slot hty (mb_pop top) ho hbase hline) fun σ H Q h => T.bind (g := fun s v cs => R.iff (bmOk cs v .pop) ((evEs G cl base .nil s cs).bind fun vs cs => bltM base cs v .pop vs)) h fun w s v x cs H1 hs hh r run => ?_
  obtain ⟨hb, run⟩ := bm_run run
  obtain ⟨ht, a, xs, rfl, ec⟩ := bmL_ok hh rfl hb r
  exact ⟨ht, w, cs, a, [], W, σ, hh, r, .nil, ⟨xs, ec⟩, run⟩
end
end EV
/-! SdN: isinstance; items written. -/
namespace EV
open PySem PySem.Spec PyProof.Rows L2

def tyNames : List String := ["NoneType", "bool", "int", "str", "tuple", "list", "dict"]
def tyTo : List String := ["str", "int", "bool", "tuple", "list"]
/-- what isinstance asks of the classes -/
structure IsOk (K : Fg) (G : Gl) : Prop where
  bb : ∀ a ∈ tyNames, ∀ b ∈ tyTo, PySem.W.kitOne K (.type a) (.type b) = some (subT a b)
  bc : ∀ a ∈ tyNames, ∀ C c, G.clss.lookup C = some c → PySem.W.kitOne K (.type a) (.ref (He.ga K C)) = some false
  cb : ∀ b ∈ tyTo, ∀ C c, G.clss.lookup C = some c → PySem.W.kitOne K (.ref (He.ga K C)) (.type b) = some false
  cc : ∀ C c D d, G.clss.lookup C = some c → G.clss.lookup D = some d → PySem.W.kitOne K (.ref (He.ga K C)) (.ref (He.ga K D)) = some (C == D)
  own : ∀ C c, G.clss.lookup C = some c → PySem.W.findIn K (.ref (He.ga K C)) "__class__" = some (some (.builtin "object.__class__")) ∧ PySem.W.mroIn K (He.ga K C) (.type "object") = some true
  gs : PySem.W.specialIn K (.builtin "object.__class__") "__get__" = some (some (.builtin "getset_descriptor.__get__")) ∧ PySem.W.takesIn K (.builtin "object.__class__") = some true
def tyU (K : Fg) : Ty → Value
  | .str => .type "str"
  | .int => .type "int"
  | .bool => .type "bool"
  | .tuple => .type "tuple"
  | .list => .type "list"
  | .cls C => .ref (He.ga K C)
def tyV' (K : Fg) : Ty → V
  | .str => .ty "str"
  | .int => .ty "int"
  | .bool => .ty "bool"
  | .tuple => .ty "tuple"
  | .list => .ty "list"
  | .cls C => .ref (He.ga K C)
theorem tyV_cls (K : Fg) (t : Ty) : ClsV (tyV' K t) (tyU K t) := by
  cases t with
  | cls C => exact .own _
  | _ => exact .ty _
section
variable {X : Cx} {w : Wd} {Bs : BX} {cs : Cells} {H : Hp} {G : Gl}
theorem tyx_of (hC : ClssOk X.K G) (hI : IsOk X.K G) (hh : HRel X.K w Bs cs H) {v : Val} {x : V} {n : Sum String Str} (r : RepV X.K w v x) (e : tyOfV cs v = some n) (hn : ∀ C, n = .inr C → (G.clss.lookup C).isSome = true) :
    (∃ m, n = .inl m ∧ m ∈ tyNames ∧ TyX X.K H x (.type m)) ∨ ∃ C, n = .inr C ∧ TyX X.K H x (.ref (He.ga X.K C)) := by
  have own : ∀ C p dx gs, x = .ref p → H p = some (.ins (He.ga X.K C) dx gs) → n = .inr C → TyX X.K H x (.ref (He.ga X.K C)) := fun C p dx gs ex hp en => by
    subst ex
    obtain ⟨c, hc⟩ := Option.isSome_iff_exists.mp (hn C en)
    exact .base (.ins hp (hC C c hc).cls (hI.own C c hc).1 hI.gs.1 hI.gs.2 (hI.own C c hc).2)
  cases r with
  | non => cases e; exact .inl ⟨_, rfl, by decide, .base .non⟩
  | bl b => cases e; exact .inl ⟨_, rfl, by decide, .base (.bl b)⟩
  | int b => cases e; exact .inl ⟨_, rfl, by decide, .base (.int b)⟩
  | str b => cases e; exact .inl ⟨_, rfl, by decide, .base (.str _)⟩
  | tup hp _ =>
    cases e
    refine .inl ⟨_, rfl, by decide, ?_⟩
    rcases sqT_mono hh.fr hp with (h | ⟨o, h⟩) | ⟨o, its, k, h1, h2, _⟩
    · exact .base (.tup h)
    · exact .fTuple h
    · exact .kTuple h1 h2
  | lst hp _ => cases e; exact .inl ⟨_, rfl, by decide, .base (.lst (hh.fr _ _ hp))⟩
  | dct hp _ => cases e; exact .inl ⟨_, rfl, by decide, .fDict (hh.fr _ _ hp)⟩
  | @obj C fs p dx gs hp _ _ =>
    cases e
    exact .inr ⟨C, rfl, own C p dx gs rfl (hh.fr _ _ hp) rfl⟩
  | @ref a ha =>
    have e : (match cs[a]? with
      | some (.lst _) => some (.inl "list")
      | some (.dct _) => some (.inl "dict")
      | some (.ins C _) => some (.inr C)
      | none => none) = some n := e
    cases ec : cs[a]? with
    | none => rw [ec] at e; cases e
    | some o =>
      rw [ec] at e
      have hr := (hh.cell a o ec).1
      cases o with
      | lst xs =>
        obtain ⟨ys, hp, _⟩ := hr
        cases e
        exact .inl ⟨_, rfl, by decide, .base (.lst hp)⟩
      | dct xs =>
        obtain ⟨ys, hp, _⟩ := hr
        cases e
        exact .inl ⟨_, rfl, by decide, .base (.dK hp)⟩
      | ins C fs =>
        obtain ⟨dx, gs, hp, _⟩ := hr
        cases e
        exact .inr ⟨C, rfl, own C _ dx gs rfl hp rfl⟩
  | _ => cases e
/-- a value's type, and what isinstance says of it -/
theorem ty_of (hC : ClssOk X.K G) (hI : IsOk X.K G) (hh : HRel X.K w Bs cs H) {v : Val} {x : V} {t : Ty} {b : Bool} (r : RepV X.K w v x) (e : isiOne G cs v t = some b) : ∃ ty, TyX X.K H x ty ∧ ∀ t b, isiOne G cs v t = some b → PySem.W.kitOne X.K ty (tyU X.K t) = some b := by
  have e0 := e
  unfold isiOne at e
  cases et : tyOfV cs v with
  | none => rw [et] at e; cases e
  | some n =>
    rw [et] at e
    have hn : ∀ C, n = .inr C → (G.clss.lookup C).isSome = true := fun C en => by
      subst en
      simp only at e
      split at e
      · assumption
      · cases e
    rcases tyx_of hC hI hh r et hn with ⟨m, en, hm, ht⟩ | ⟨C, en, ht⟩
    · refine ⟨_, ht, fun t b e9 => ?_⟩
      clear e e0
      subst en
      unfold isiOne at e9
      rw [et] at e9
      cases t with
      | cls D =>
        simp only at e9
        split at e9
        · rename_i hd
          cases e9
          obtain ⟨d, hd⟩ := Option.isSome_iff_exists.mp hd
          exact hI.bc m hm D d hd
        · cases e9
      | str => cases e9; exact hI.bb m hm _ (by decide)
      | int => cases e9; exact hI.bb m hm _ (by decide)
      | bool => cases e9; exact hI.bb m hm _ (by decide)
      | tuple => cases e9; exact hI.bb m hm _ (by decide)
      | list => cases e9; exact hI.bb m hm _ (by decide)
    · refine ⟨_, ht, fun t b e9 => ?_⟩
      clear e e0
      subst en
      obtain ⟨c, hc⟩ := Option.isSome_iff_exists.mp (hn C rfl)
      unfold isiOne at e9
      rw [et] at e9
      simp only [hc, Option.isSome_some, if_true] at e9
      cases t with
      | cls D =>
        simp only at e9
        split at e9
        · rename_i hd
          cases e9
          obtain ⟨d, hd⟩ := Option.isSome_iff_exists.mp hd
          exact hI.cc C c D d hc hd
        · cases e9
      | str => cases e9; exact hI.cb _ (by decide) C c hc
      | int => cases e9; exact hI.cb _ (by decide) C c hc
      | bool => cases e9; exact hI.cb _ (by decide) C c hc
      | tuple => cases e9; exact hI.cb _ (by decide) C c hc
      | list => cases e9; exact hI.cb _ (by decide) C c hc
theorem any_of {ty : Value} {v : Val} (h : ∀ t b, isiOne G cs v t = some b → PySem.W.kitOne X.K ty (tyU X.K t) = some b) : ∀ (ts : List Ty) (b : Bool), isiAny G cs v ts = some b → PySem.W.kitAny X.K ty (ts.map (tyU X.K)) = some b
  | [], b, e => e
  | t :: ts, b, e => by
    unfold isiAny at e
    unfold PySem.W.kitAny
    cases e1 : isiOne G cs v t with
    | none => rw [e1] at e; cases e
    | some d =>
      have h1 := h t d e1
      rw [e1] at e
      show (match PySem.W.kitOne X.K ty (tyU X.K t) with
        | some true => some true
        | some false => PySem.W.kitAny X.K ty (ts.map (tyU X.K))
        | none => none) = some b
      rw [h1]
      cases d with
      | true => exact e
      | false => exact any_of h ts b e
end
section
variable {X : Cx} {Bs : BX} {W : WX} {G : Gl} {cl : CallF} {base : Nat} {pos : Pos} {e te : Expr} {c : E}
/-- one class -/
theorem sd_isi1 (hC : ClssOk X.K G) (hI : IsOk X.K G) {p : Pos} {t : Ty} (hg : L2.Gl X "isinstance") (hm : X.mg "isinstance" = none) (hv : bootBuiltins "isinstance" = some (.builtin "isinstance")) (he : PE X e (TV X Bs W (evE G cl base c))) (ht : PE X te (tC (tyV' X.K t)))
    (hs : starEach [e, te] X.env = (false, eval e X.env) :: starEach [te] X.env) (hs2 : starEach [te] X.env = (false, eval te X.env) :: starEach [] X.env) (hpl : (backTo pos (starEach [te] X.env)).any (·.1) = false) :
    PE X (.Call (.Name "isinstance" p) [e, te] [] pos) (TV X Bs W (evE G cl base (.isi c [t]))) := by
  refine PE.imp (pe_callB call_isi hg hm hv (pa_cons he (pa_cons ht pa_nil hs2) hs) (by decide) (by decide) hs hpl) fun σ H Q h => ?_
  refine T.bind (Q1 := fun x H1 => tCons (tC (tyV' X.K t)) tNil σ H1 fun xs H2 => rIsi X.K (x :: xs) H2 Q) (g := fun _ v cs => R.of ((isiAny G cs v [t]).map Val.bl) cs) h fun w s v x cs H1 hs hh r run => ?_
  cases ea : isiAny G cs v [t] with
  | none => rw [ea] at run; exact run.elim
  | some b =>
    rw [ea] at run
    have e1 : isiOne G cs v t = some b := by
      unfold isiAny at ea
      cases e1 : isiOne G cs v t with
      | none => rw [e1] at ea; cases ea
      | some d =>
        rw [e1] at ea
        cases d with
        | true => cases ea; rfl
        | false => cases ea; rfl
    obtain ⟨ty, h1, h2⟩ := ty_of hC hI hh r e1
    exact ⟨x, tyV' X.K t, ty, tyU X.K t, b, rfl, tyV_cls X.K t, h1, h2 t b e1, Run.done (a := Val.bl b) run hh (.bl b)⟩
theorem clsP (K : Fg) : ∀ ts : List Ty, Paired ClsV (ts.map (tyV' K)) (ts.map (tyU K))
  | [] => .nil
  | t :: ts => .cons (tyV_cls K t) (clsP K ts)
/-- a written tuple of classes -/
theorem sd_isiT (hC : ClssOk X.K G) (hI : IsOk X.K G) {p : Pos} {ts : List Ty} (h0 : ts ≠ []) (hg : L2.Gl X "isinstance") (hm : X.mg "isinstance" = none) (hv : bootBuiltins "isinstance" = some (.builtin "isinstance")) (he : PE X e (TV X Bs W (evE G cl base c)))
    (ht : PE X te (fun _ H Q => ∀ p, H p = none → Q (.ref p) (upd H p (.tup (ts.map (tyV' X.K))))))
    (hs : starEach [e, te] X.env = (false, eval e X.env) :: starEach [te] X.env) (hs2 : starEach [te] X.env = (false, eval te X.env) :: starEach [] X.env) (hpl : (backTo pos (starEach [te] X.env)).any (·.1) = false) :
    PE X (.Call (.Name "isinstance" p) [e, te] [] pos) (TV X Bs W (evE G cl base (.isi c ts))) := by
  refine PE.imp (pe_callB call_isiT hg hm hv (pa_cons he (pa_cons ht pa_nil hs2) hs) (by decide) (by decide) hs hpl) fun σ H Q h => ?_
  refine T.bind (Q1 := fun x H1 => ∀ p, H1 p = none → rIsiT X.K [x, .ref p] (upd H1 p (.tup (ts.map (tyV' X.K)))) Q) (g := fun _ v cs => R.of ((isiAny G cs v ts).map Val.bl) cs) h fun w s v x cs H1 hs hh r run p hp => ?_
  cases ea : isiAny G cs v ts with
  | none => rw [ea] at run; exact run.elim
  | some b =>
    rw [ea] at run
    have hh2 := upd_new (o := .tup (ts.map (tyV' X.K))) hh hp
    obtain ⟨t1, b1, e1⟩ : ∃ t b, isiOne G cs v t = some b := by
      cases ts with
      | nil => exact absurd rfl h0
      | cons t ts =>
        unfold isiAny at ea
        cases e1 : isiOne G cs v t with
        | none => rw [e1] at ea; cases ea
        | some d => exact ⟨t, d, e1⟩
    obtain ⟨ty, h1, h2⟩ := ty_of hC hI hh2 r e1
    exact ⟨x, p, _, ty, _, b, rfl, upd_same, clsP X.K ts, h1, any_of h2 ts b ea, Run.done (a := Val.bl b) run hh2 (.bl b)⟩
end

/-! ### items written -/
section
variable {X : Cx} {W : WX} {f : Fr} {G : Gl} {cl : CallF} {pos : Pos} {o i e : Expr} {co ci c : E}
theorem sd_setI {tpos : Pos} (hu : X.A.units + 65 < cLine) (hf : f.Ok) (ho : PE X o (TV X f.Bs W (evE G cl f.base co))) (hi : PE X i (TV X f.Bs W (evE G cl f.base ci))) (he : PE X e (TV X f.Bs W (evE G cl f.base c)))
    (ha : ∀ v, assign (.Subscript o i tpos) X.env v = (do
      let ov ← holding [v] (eval o X.env)
      let iv ← holding [v, ov] (eval i X.env)
      standAt tpos
      holding [v, ov, iv] (setItem ov iv v)
      release [v, ov, iv] []))
    (hs : swapsWithSole [.Subscript o i tpos] e pos.line X.env = pure false) (hw : swappedStores [.Subscript o i tpos] e X.env = pure none) (h1 : (assignEach [.Subscript o i tpos] X.env).map (·.2) = [assign (.Subscript o i tpos) X.env]) :
    PS X (.Assign [.Subscript o i tpos] e pos) (TM1 X f W G cl (.setI co ci c)) := by
  have hset : PSet X (fun oy iy vy H Q => ∃ (w : Wd) (cs : Cells) (ov iv v : Val) (st : LSt) (σ : L2.St) (D : Ends), SRel X.K w st σ ∧ HRel X.K w f.Bs cs H ∧ RepV X.K w ov oy ∧ RepV X.K w iv iy ∧ RepV X.K w v vy ∧ RunS X.K f W w D (SR.ofR (setIx f.base cs ov iv v) st fun _ cs => .nx st cs) ∧ ∀ H', D.nx σ H' → Q H') := by
    intro pins s σ H oy iy vy ou iu vu Q I r1 r2 r3 ⟨w, cs, ov, iv, v, st, σ', D, hs, hh, ro, ri, rv, run, q⟩
    cases ro with
    | @ref a ha =>
      unfold setIx at run
      simp only at run
      cases ec : cs[a]? with
      | none => simp only [ec] at run; exact run.elim
      | some ob =>
        cases ob with
        | ins C fs => simp only [ec] at run; exact run.elim
        | lst xs =>
          simp only [ec] at run
          cases ri with
          | int kk =>
            simp only at run
            cases ei : ixOf xs.length kk with
            | none => simp only [ei] at run; exact run.elim
            | some j =>
              simp only [ei] at run
              obtain ⟨hok, run⟩ := put_some (Rp := rV X.K) (α := Val) (β := V) (σ := σ') run
              obtain ⟨ys, hp, hr⟩ := (hh.cell a _ ec).1
              refine set_list pins s σ H _ _ _ ou iu vu Q I r1 r2 r3 ⟨w.i a, ys, kk, j, rfl, rfl, hp, by rw [← hr.length]; exact ei, q _ (run w σ' _ .rfl hs (hh.wr ec ⟨_, upd_same, hr.set rv j⟩ rfl ?_))⟩
              exact clean_put (w := w) (cs := cs) (H := H) hf.top hok fun hp b hb hab => undrL_set (pure_undr b v hp) j (hh.clean b hb a _ hab ec)
          | _ => exact run.elim
        | dct kvs =>
          simp only [ec] at run
          cases ek : (iv.key && sizeOk (kvs.length + 1)) with
          | false => rw [ek] at run; exact run.elim
          | true =>
            rw [ek] at run
            obtain ⟨k1, k2⟩ := and2 ek
            obtain ⟨hok, run⟩ := put_some (Rp := rV X.K) (α := Val) (β := V) (σ := σ') run
            obtain ⟨kc, hkc⟩ := key_some k1
            obtain rfl := key_rep hkc ri
            obtain ⟨ds, hp, hr⟩ := (hh.cell a _ ec).1
            cases r1
            have hlt : ds.length < sizeLine := by
              have := line_of k2
              rw [← hr.length]
              omega
            refine d_setItem (by omega) I (.inl ⟨ds, kc, hp, rfl, hlt, rfl⟩) r2 r3 fun s' I' => ⟨_, I', q _ (run w σ' _ .rfl hs (hh.wr ec ⟨_, upd_same, hr.put hkc rv⟩ rfl ?_))⟩
            refine clean_put (w := w) (cs := cs) (H := H) hf.top hok fun hp b hb hab => undrD_put ?_ (pure_undr b v hp) (hh.clean b hb a _ hab ec)
            cases iv <;> first | rfl | cases k1
    | _ => exact run.elim
  refine PS.imp (ps_asg he (pg_sub ho hi hset ha) hs hw h1) fun D σ H h => TSm.ofR (k := fun s v cs => SR.ofR (evE G cl f.base co s cs) s fun o cs => SR.ofR (evE G cl f.base ci s cs) s fun i cs => SR.ofR (setIx f.base cs o i v) s fun _ cs => .nx s cs) h fun w s v y cs H1 hs hh r run => ?_
  refine ⟨w, s, cs, hs, hh, run.ofR hs fun w2 ov y2 cs2 H2 l hh2 ro run2 => ⟨w2, s, cs2, hs.mono l, hh2, run2.ofR (hs.mono l) fun w3 iv y3 cs3 H3 l3 hh3 ri run3 => ?_⟩⟩
  exact ⟨w3, cs3, ov, iv, v, s, σ, D, (hs.mono l).mono l3, hh3, ro.mono l3, ri, (r.mono l).mono l3, run3, fun H' q => q⟩
end
end EV
/-! SdO: errors raised. -/
namespace EV
open PySem PySem.Spec PyProof.Rows L2

section
variable {X : Cx} {W : WX} {f : Fr} {G : Gl} {cl : CallF} {fdm : Str → FuncData} {k : Nat} {pos : Pos}
theorem mkX_plain {C : Str} {i : ExcI} {vs : List Val} {x : Exn} (hC : G.excs.lookup C = some i) (h0 : i.fields = []) (h : mkX G C vs = some x) : x = ⟨C, []⟩ := by
  unfold mkX at h
  rw [hC] at h
  simp only [h0] at h
  split at h
  · cases h
    rfl
  · cases h
/-- raise C('..') -/
theorem sd_rse0 (g : Good G cl fdm X W f k) {C : Str} {i : ExcI} {e : Expr} {m : Str} (hC : G.excs.lookup C = some i) (h0 : i.fields = []) (hmk : PMk X e (fun _ H Q => Q (.ref (He.ga X.K C)) none H)) : PS X (.Raise (some e) none pos) (TM1 X f W G cl (.rse C (.cons (.val (.str m.cps.toList)) .nil))) := by
  refine PS.imp (ps_raise g.calm g.tk hmk) fun D σ H ⟨w, s, cs, hs, hh, hr⟩ => ?_
  have hr : RunS X.K f W w D (SR.ofO (mkX G C [.str m.cps.toList]) fun x => .exc x s cs) := hr
  obtain ⟨x, ex, hr⟩ := hr.ofO
  have := mkX_plain hC h0 ex
  subst this
  exact hr w σ H _ _ .rfl hs hh ⟨rfl, .inl ⟨rfl, rfl⟩⟩

/-! ### an own __init__ that keeps its arguments -/
/-- the statements self.f = y: the field and the argument's place -/
inductive XBody (X : Cx) : List Stmt → List (Str × Nat) → Prop
  | nil : XBody X [] []
  | cons {x y fld : Str} {j : Nat} {p1 p2 p' pos : Pos} {r : List Stmt} {l : List (Str × Nat)} : X.N[0]? = some x → Vis X.env.scope x → (x == ("__debug__" : Str)) = false → (x == ("__classdict__" : Str)) = false →
      X.N[j]? = some y → Vis X.env.scope y → (y == ("__debug__" : Str)) = false → (y == ("__classdict__" : Str)) = false → XBody X r l → XBody X (.Assign [.Attribute (.Name x p1) fld p'] (.Name y p2) pos :: r) ((fld, j) :: l)
def tX (K : Fg) : List (Str × Nat) → TS
  | [] => tNext
  | (fld, j) :: l => tSeq (tOst K fld (tVar 0) (tVar j)) (tX K l)
theorem XBody.pss {body : List Stmt} {l : List (Str × Nat)} (h : XBody X body l) : PSs X body (tX X.K l) := by
  induction h with
  | nil => exact pss_nil
  | cons h1 h2 h3 h4 h5 h6 h7 h8 _ ih => exact pss_cons (ps_ost (pe_var h1 h2 h3 h4) (pe_var h5 h6 h7 h8) rfl) ih
/-- the values kept, the last first -/
def keptV (σ : L2.St) : List (Str × Nat) → List (Str × V) → Option (List (Str × V))
  | [], acc => some acc
  | (fld, j) :: l, acc => match σ[j]? with
    | some (some v) => keptV σ l ((fld, v) :: acc)
    | _ => none
theorem tX_go {K : Fg} {a C dx : Addr} {σ : L2.St} {H0 : Hp} {D : Ends} (h0 : σ[0]? = some (some (.ref a))) (T : OexC K C) (hne : dx ≠ a) : ∀ (l : List (Str × Nat)) (acc out : List (Str × V)) (H : Hp), (∀ p ∈ l, PySem.W.findIn K (.ref C) p.1 = some none) → acc.length + l.length ≤ 900 →
    keptV σ l acc = some out → H a = some (exo a C (some dx)) → H dx = some (exd dx acc) → (∀ p, p ≠ a → p ≠ dx → H p = H0 p) →
    (∀ H', H' a = some (exo a C (some dx)) → H' dx = some (exd dx out) → (∀ p, p ≠ a → p ≠ dx → H' p = H0 p) → D.nx σ H') → tX K l D σ H
  | [], acc, out, H, _, _, ek, ha, hd, ho, q => by
    cases ek
    exact q H ha hd ho
  | (fld, j) :: l, acc, out, H, hf, hl, ek, ha, hd, ho, q => by
    unfold keptV at ek
    split at ek
    · rename_i v hv
      refine ⟨v, hv, .ref a, h0, a, C, rfl, T, hf (fld, j) List.mem_cons_self, .inr ⟨dx, acc, ha, hd, by rw [List.length_cons] at hl; omega, ?_⟩⟩
      refine tX_go h0 T hne l _ out _ (fun p hp => hf p (List.mem_cons_of_mem _ hp)) (by rw [List.length_cons] at hl ⊢; omega) ek ?_ upd_same (fun p h1 h2 => ?_) q
      · rw [upd_ne (Ne.symm hne)]
        exact ha
      · rw [upd_ne h2]
        exact ho p h1 h2
    · cases ek
theorem tX_go0 {K : Fg} {a C : Addr} {σ : L2.St} {H : Hp} {D : Ends} (h0 : σ[0]? = some (some (.ref a))) (T : OexC K C) {l : List (Str × Nat)} {out : List (Str × V)} (hl0 : l ≠ []) (hf : ∀ p ∈ l, PySem.W.findIn K (.ref C) p.1 = some none) (hl : l.length ≤ 900)
    (ek : keptV σ l [] = some out) (ha : H a = some (exo a C none)) (q : ∀ dx H', H dx = none → dx ≠ a → H' a = some (exo a C (some dx)) → H' dx = some (exd dx out) → (∀ p, p ≠ a → p ≠ dx → H' p = H p) → D.nx σ H') : tX K l D σ H := by
  cases l with
  | nil => exact absurd rfl hl0
  | cons p l =>
    obtain ⟨fld, j⟩ := p
    unfold keptV at ek
    split at ek
    · rename_i v hv
      refine ⟨v, hv, .ref a, h0, a, C, rfl, T, hf (fld, j) List.mem_cons_self, .inl ⟨ha, fun dx hdx hne => ?_⟩⟩
      refine tX_go h0 T hne l _ out _ (fun p hp => hf p (List.mem_cons_of_mem _ hp)) (by rw [List.length_cons] at hl; show 1 + l.length ≤ 900; omega) ek upd_same ?_ (fun p h1 h2 => ?_) fun H' h1 h2 h3 => q dx H' hdx hne h1 h2 h3
      · rw [upd_ne hne]
        exact upd_same
      · rw [upd_ne h1, upd_ne h2]
    · cases ek
/-- what such an __init__ promises -/
def spX (K : Fg) (C : Addr) (n : Nat) (out : List V → List (Str × V)) : Sp := fun vs H Q _ => vs.length = n ∧ ∃ a, vs.head? = some (.ref a) ∧ H a = some (exo a C none) ∧
  ∀ dx H', H dx = none → dx ≠ a → H' a = some (exo a C (some dx)) → H' dx = some (exd dx (out vs)) → (∀ p, p ≠ a → p ≠ dx → H' p = H p) → Q .non H'
theorem initX_ok {P : Program} {w : World} {K : Fg} {mg : Str → Option Value} {base : Heap} {CXx : CXT} {C : Addr} {fI : Addr} {fd : FuncData} {x qual : Str} {params : Arguments} {body : List Stmt} {scope : Scope} {dvs : List V} {kws : List (Str × V)} {N ps : List Str} {l : List (Str × Nat)} {out : List V → List (Str × V)}
    (F : FunD K x qual params body scope dvs kws fI fd) (S : FnScope N ps scope) (T : OexC K C) (hl0 : l ≠ []) (hf : ∀ p ∈ l, PySem.W.findIn K (.ref C) p.1 = some none) (hl : l.length ≤ 900)
    (hb : ∀ X : Cx, X.N = N → X.env.scope = scope → XBody X body l) (ho : ∀ vs : List V, vs.length = ps.length → keptV (L2.start N vs) l [] = some (out vs)) (hps : 0 < ps.length) :
    FnOk P w K mg base CXx 1 fI fd ps (spX K C ps.length out) := by
  refine F.ok S (fun vs H Q E h => h.1) fun cdv A outer s H vs Q E hr hsp => ?_
  obtain ⟨hlen, a, hh, ha, q⟩ := hsp
  refine ⟨_, (hb _ rfl rfl).pss, ?_⟩
  have h0 : (L2.start N vs)[0]? = some (some (.ref a)) := by
    cases vs with
    | nil => cases hh
    | cons v vs =>
      cases hh
      rfl
  exact tX_go0 h0 T hl0 hf hl (ho vs hlen) ha fun dx H' h1 h2 h3 h4 h5 => q dx H' h1 h2 h3 h4 h5
/-- the fields in the arguments' order -/
def lx : Nat → List Str → List (Str × Nat)
  | _, [] => []
  | j, x :: r => (x, j) :: lx (j + 1) r
theorem kept_lx {σ : L2.St} : ∀ (fs : List Str) (ys : List V) (j : Nat) (acc : List (Str × V)), ys.length = fs.length → (∀ i v, ys[i]? = some v → σ[j + i]? = some (some v)) → keptV σ (lx j fs) acc = some ((fs.zip ys).reverse ++ acc)
  | [], [], _, acc, _, _ => rfl
  | [], _ :: _, _, _, h, _ => nomatch h
  | _ :: _, [], _, _, h, _ => nomatch h
  | x :: fs, y :: ys, j, acc, h, hs => by
    have h0 : σ[j]? = some (some y) := hs 0 y rfl
    show (match σ[j]? with
      | some (some v) => keptV σ (lx (j + 1) fs) ((x, v) :: acc)
      | _ => none) = _
    rw [h0]
    show keptV σ (lx (j + 1) fs) ((x, y) :: acc) = _
    rw [kept_lx fs ys (j + 1) _ (Nat.succ.inj h) fun i v e => by
      have := hs (i + 1) v e
      rw [show j + 1 + i = j + (i + 1) by omega]
      exact this]
    rw [List.zip_cons_cons, List.reverse_cons, List.append_assoc]
    rfl
theorem start_at {N : List Str} {vs : List V} {i : Nat} {v : V} (h : vs[i]? = some v) : (L2.start N vs)[i]? = some (some v) := by
  have hi : i < vs.length := (List.getElem?_eq_some_iff.mp h).1
  unfold L2.start
  rw [List.getElem?_append_left (by rw [List.length_map]; exact hi), List.getElem?_map, h]
  rfl
theorem RepF.zip {K : Fg} {w : Wd} : ∀ {fs : List Str} {vs : List Val} {xs : List V}, RepL K w vs xs → RepF K w (fs.zip vs) (fs.zip xs)
  | [], _, _, _ => .nil
  | _ :: _, _, _, .nil => .nil
  | _ :: fs, _, _, .cons h r => .cons h (RepF.zip r)
theorem RepF.app {K : Fg} {w : Wd} : ∀ {a b : List (Str × Val)} {x y : List (Str × V)}, RepF K w a x → RepF K w b y → RepF K w (a ++ b) (x ++ y)
  | _, _, _, _, .nil, s => s
  | _, _, _, _, .cons h r, s => .cons h (RepF.app r s)
theorem RepF.rev {K : Fg} {w : Wd} : ∀ {a : List (Str × Val)} {x : List (Str × V)}, RepF K w a x → RepF K w a.reverse x.reverse
  | _, _, .nil => .nil
  | _, _, .cons h r => by
    rw [List.reverse_cons, List.reverse_cons]
    exact (RepF.rev r).app (.cons h .nil)
theorem mkX_own {C : Str} {i : ExcI} {vs : List Val} {x : Exn} (hC : G.excs.lookup C = some i) (h0 : i.fields ≠ []) (h : mkX G C vs = some x) : x = ⟨C, (i.fields.zip vs).reverse⟩ ∧ i.fields.length = vs.length := by
  unfold mkX at h
  rw [hC] at h
  cases ef : i.fields with
  | nil => exact absurd ef h0
  | cons y r =>
    simp only [ef] at h
    split at h
    · rename_i hc
      cases h
      rw [Bool.and_eq_true] at hc
      exact ⟨rfl, of_decide_eq_true hc.1⟩
    · cases h
/-- what is known of an error class with an own __init__ -/
structure ExF (K : Fg) (C : Str) (fields : List Str) (fI : Addr) (fd : FuncData) (ps : List Str) : Prop where
  T : OexC K (He.ga K C)
  init : PySem.W.findIn K (.ref (He.ga K C)) "__init__" = some (some (.ref fI))
  fn : PySem.W.typeIn K (.ref fI) = some (.type "function")
  ok : ∀ (P : Program) (w : World) (mg : Str → Option Value) (base : Heap) (CXx : CXT), FnOk P w K mg base CXx 1 fI fd ps (spX K (He.ga K C) (fields.length + 1) fun vs => (fields.zip vs.tail).reverse)
  bind : Binds K fd ps []
theorem sd_rse (g : Good G cl fdm X W f k) (hk1 : 1 ≤ k) {C x : Str} {i : ExcI} {e : Expr} {es : List Expr} {ces : Es} {fI : Addr} {fd : FuncData} {ps : List Str} {p pos' : Pos} (hC : G.excs.lookup C = some i) (h0 : i.fields ≠ []) (h9 : i.fields.length ≤ 900) (F : ExF X.K C i.fields fI fd ps)
    (hg : L2.Gl X x) (hm : X.mg x = some (.ref (He.ga X.K C))) (hdb : (x == ("__debug__" : Str)) = false) (ha : PA X (e :: es) (TL X f.Bs W (evEs G cl f.base ces))) (he : starEach (e :: es) X.env = (false, eval e X.env) :: starEach es X.env) (hpl : (backTo pos' (starEach es X.env)).any (·.1) = false) :
    PS X (.Raise (some (.Call (.Name x p) (e :: es) [] pos')) none pos) (TM1 X f W G cl (.rse C ces)) := by
  have hmk := pmk_oex (CX := L2.CX X.prog X.w) (p := p) (pos := pos') (dvs := []) (ds := []) F.T F.init F.fn (F.ok X.prog X.w X.mg X.base _) (g.room.mono (by omega)) F.bind .nil (fun _ _ _ _ _ _ _ z => by obtain ⟨_, _, _, _, _, _, _, _, _, _, _, _, z⟩ := z; exact z.elim) hg hm ha hdb he hpl
  refine PS.imp (ps_raise g.calm g.tk hmk) fun D σ H h => ?_
  refine TSm.ofR (Q := fun xs H1 => xs.length ≤ 1000 ∧ ∀ a, H1 a = none → spX X.K (He.ga X.K C) (i.fields.length + 1) (fun vs => (i.fields.zip vs.tail).reverse) (.ref a :: (xs ++ [])) (upd H1 a (exo a (He.ga X.K C) none))
      (fun v H2 => v = .non ∧ ∃ (d : Addr) (fs : List (Str × V)), H2 a = some (exo a (He.ga X.K C) (some d)) ∧ H2 d = some (exd d fs) ∧ H1 d = none ∧ W (.ref (He.ga X.K C)) (some d) σ (upd (del H2 a) d (.xd fs))) (fun _ _ _ => False))
    (k := fun s vs cs => SR.ofO (mkX G C vs) fun x => .exc x s cs) h fun w s vs xs cs H1 hs hh r run => ?_
  obtain ⟨x, ex, run⟩ := run.ofO
  obtain ⟨ex, hlen⟩ := mkX_own hC h0 ex
  subst ex
  have hl2 : xs.length = i.fields.length := by rw [← r.length]; exact hlen.symm
  refine ⟨by omega, fun a ha => ⟨by rw [List.append_nil, List.length_cons, hl2], a, rfl, upd_same, fun dx H' hdx hne h1 h2 h3 => ⟨rfl, dx, _, h1, h2, ?_, ?_⟩⟩⟩
  · rw [upd_ne hne] at hdx
    exact hdx
  · rw [upd_ne hne] at hdx
    have eH : upd (del H' a) dx (.xd (i.fields.zip (List.tail (V.ref a :: (xs ++ [])))).reverse) = upd H1 dx (.xd (i.fields.zip xs).reverse) := by
      funext p
      by_cases hp : p = dx
      · subst hp
        rw [upd_same, upd_same, List.append_nil]
        rfl
      · rw [upd_ne hp, upd_ne hp]
        by_cases hpa : p = a
        · subst hpa
          rw [del_same, ha]
        · rw [del_ne hpa, h3 p hpa hp, upd_ne hpa]
    rw [eH]
    have l := Wd.fz_le (w := w) (o := .xd (i.fields.zip xs).reverse) (hh.none_F hdx)
    exact run (w.fz dx (.xd (i.fields.zip xs).reverse)) σ _ _ _ l (hs.mono l) (hh.new hdx _) ⟨rfl, .inr ⟨dx, _, rfl, fz_at, (RepF.zip (r.mono l)).rev⟩⟩
end
end EV
/-! SdP: try with several clauses, each with or without a name. -/
namespace EV
open PySem PySem.Spec PyProof.Rows L2

/-- a clause: its class, its name's slot, its suite's reading -/
structure Clz where
  c : Value
  i : Option Nat
  ts : Addr → Value → Option Addr → TS
def Clz.ends (z : Clz) (D : Ends) : Ends := match z.i with
  | none => D
  | some i => { nx := fun σ' H' => D.nx (σ'.set i none) H', rt := D.rt, bk := fun σ' H' => D.bk (σ'.set i none) H', ct := fun σ' H' => D.ct (σ'.set i none) H' }
def Clz.slots (z : Clz) (a : Addr) (σ : L2.St) : L2.St := match z.i with
  | none => σ
  | some i => σ.set i (some (.ref a))
def wClz (K : Fg) (Wout : WX) (D : Ends) : List Clz → WX
  | [] => Wout
  | z :: r => fun cls d σ H => ∃ b, PySem.W.exmOne K cls z.c = some b ∧ (b = true → ∀ a, H a = none → z.ts a cls d (z.ends D) (z.slots a σ) H) ∧ (b = false → wClz K Wout D r cls d σ H)
inductive ClzOk (X : Cx) : List ExceptHandler → List Clz → Prop
  | nil : ClzOk X [] []
  | plain {x : Str} {c : Value} {ts : Addr → Value → Option Addr → TS} {b₀ : Stmt} {su : List Stmt} {np p2 : Pos} {hds : List ExceptHandler} {l : List Clz} : Names X x c →
      (∀ (a : Addr) (oe : Obj) (cls : Value) (d : Option Addr) (pn : List (Addr × Obj)), Zc cls d oe → (∃ vs, oe.data = .fields vs) → PSs (X.suite a ((a, oe) :: pn)) (b₀ :: su) (ts a cls d)) → ClzOk X hds l →
      ClzOk X (.ExceptHandler (some (.Name x np)) none (b₀ :: su) p2 :: hds) (⟨c, none, ts⟩ :: l)
  | named {x n : Str} {i : Nat} {c : Value} {ts : Addr → Value → Option Addr → TS} {b₀ : Stmt} {su : List Stmt} {np p2 : Pos} {hds : List ExceptHandler} {l : List Clz} : Names X x c → X.N[i]? = some n → X.env.kindOf n = some .local →
      (∀ (a : Addr) (oe : Obj) (cls : Value) (d : Option Addr) (pn : List (Addr × Obj)), Zc cls d oe → (∃ vs, oe.data = .fields vs) → PSs (X.suite a ((a, oe) :: pn)) (b₀ :: su) (ts a cls d)) → ClzOk X hds l →
      ClzOk X (.ExceptHandler (some (.Name x np)) (some n) (b₀ :: su) p2 :: hds) (⟨c, some i, ts⟩ :: l)
section
variable {X : Cx} {body : List Stmt} {z₀ : ExceptHandler} {zs : List ExceptHandler} {l : List Clz} {pos : Pos} {tb : WX → TS} {Wout : WX}
theorem ps_clz (kst : X.stack = X.env :: X.outer) (kfr : X.env.frame = some X.env.locals) (kN : X.N.Nodup) (tk : Takes X Wout)
    (kb : ∀ (W : WX) (pn : List (Addr × Obj)) (xe : Value → Shared → Prop), Takes (X.tr pn xe) W → PassesOwn (model X.prog X.w) X.A X.env xe → PSs (X.tr pn xe) body (tb W))
    (kh : ClzOk X (z₀ :: zs) l) : PS X (.Try body (z₀ :: zs) [] [] pos) (fun D σ H => tb (wClz X.K Wout D l) D σ H) := by
  refine ⟨fun pins s σ H D I hq => ?_⟩
  have okX := I.ok
  have frA : X.A.frames = some (X.env :: X.outer) := by rw [okX.frames, kst]
  refine wpAny_Try_except ?_
  refine wpAny_mono ((kb (wClz X.K Wout D l) (X.pn ++ pins) (fun e t₁ => wpAny (model X.prog X.w) X.A (noteFrame e X.env) (fun _ t₂ => wpAny (model X.prog X.w) X.A (setFlight e none) (fun _ t₃ =>
    wpAny (model X.prog X.w) X.A (handleBy e X.env (z₀ :: zs)) (SP X pins D) X.xe t₃) X.xe t₂) X.xe t₁) (fun u t xx => ?_) PassesOwn.looking).run [] s σ H D (I.toTry _) hq) (fun fl t1 hsp => ?_) (fun e t1 he => he)
  · obtain ⟨a, B, sI, pins', σ', H', cls, d, rfl, U', nb, up, sky, na, os, ag, wish⟩ := xx
    have U : Inv X pins σ' H' sI := U'.ofTry okX
    have skyX : Sky B (X.env :: X.outer) a (Zc cls d) X.env.locals t.heap := by rw [← kst]; exact sky
    show wpAny (model X.prog X.w) X.A (noteFrame (.ref a) X.env) _ _ _
    refine Sky.land Zc.steady frA kfr skyX fun g3 fy3 gu3 => ?_
    have U3 : Inv X pins σ' H' { t with heap := g3 } := U.landed nb fy3.1 (up.trans gu3) os ag
    obtain ⟨ob3, ws3, ge3, gz3, gd3⟩ := fy3.there
    have aloof : a ∉ frs (X.env :: X.outer) := fun hm => by
      obtain ⟨_, o', e', hnf⟩ := fy3.2.2.1.mem hm
      rw [ge3] at e'
      cases e'
      exact hnf _ gd3
    have aL : a ≠ X.env.locals := fun y => aloof (List.mem_filterMap.mpr ⟨X.env, List.mem_cons_self, by rw [kfr, y]⟩)
    have aF : a ∉ X.fs := fun hm => by
      obtain ⟨e, he, y⟩ := List.mem_filterMap.mp hm
      exact aloof (List.mem_filterMap.mpr ⟨e, List.mem_cons_of_mem _ he, y⟩)
    have V3 := U3.suite ge3 gd3 na aL aF
    have tested : ∀ {x : Str} {c : Value} {np : Pos} {Q : Value → Shared → Prop} {E : Value → Shared → Prop}, Names X x c → Q c { t with heap := g3 } → wpAny (model X.prog X.w) (X.A.mark (some (.ref a))) (eval (.Name x np) X.env) Q E { t with heap := g3 } := fun {x c np Q E} hc y => by
      obtain ⟨e1, e2, e3 | ⟨e3, e4, e5⟩⟩ := hc
      · exact ld_glob (X := X.suite a ((a, ob3) :: (X.pn ++ pins))) V3 e1 e3 y e2
      · exact ld_blt (X := X.suite a ((a, ob3) :: (X.pn ++ pins))) V3 e1 e3 e4 y e5 e2
    have go : ∀ {hds : List ExceptHandler} {l' : List Clz}, ClzOk X hds l' → wClz X.K Wout D l' cls d σ' H' → wpAny (model X.prog X.w) X.A (handleBy (.ref a) X.env hds) (SP X pins D) X.xe { t with heap := g3 } := by
      intro hds l' hk
      induction hk with
      | nil =>
        intro wi
        refine wpAny_handleBy_nil ?_
        obtain ⟨_, _, _, ob, ws, T, oT, ts', ge, gz, gd, g1, gr⟩ := id fy3
        unfold PySem.passOn
        refine wpAny_bind (wpAny_field ge gd g1 ?_)
        rw [if_neg (show ¬ ((Value.ref T == Value.none) = true) from by simp)]
        have last : wpAny (model X.prog X.w) X.A (setFlight (.ref a) X.env.frame) (fun _ t4 => wpAny (model X.prog X.w) X.A (throw (.ref a) : Sem Flow) (SP X pins D) X.xe t4) X.xe { t with heap := g3 } := by
          rw [kfr]
          refine HandSPX.setFlight_upZ fy3 fun g4 gh4 gu4 => wpAny_throw (tk _ _ ?_)
          exact ⟨a, B, sI, pins, σ', H', cls, d, rfl, U, nb, (up.trans gu3).trans gu4, .inr (.inr (by rw [kst]; exact gh4)), na, os, ag, wi⟩
        first
          | exact wpAny_bind (wpAny_pure (wpAny_bind last))
          | exact wpAny_bind last
      | @plain x c ts b₀ su np p2 hds2 l2 hc hsu r ih =>
        intro wi
        obtain ⟨b, hb1, yes, no⟩ := wi
        refine wpAny_handleBy_cons (codeAny_handlers_test ?_) (by intro y; cases y)
        have LT : PySem.W.Looks (model X.prog X.w) g3 (typeOf (.ref a)) cls := fun A Q E s k y => wpAny_typeOf_ref (k _ _ ge3) (by rw [gz3.1]; exact y)
        refine tested hc ((PySem.W.exm_one (M := model X.prog X.w) U3.kIn LT hb1).here ?_)
        cases b with
        | true =>
          refine codeAny_handlers_suite ?_
          refine HandSPX.lands_againZ fy3 fun g4 fy4 gu4 => ?_
          have U4 : Inv X pins σ' H' { t with heap := g4 } := U.landed nb fy4.1 ((up.trans gu3).trans gu4) os ag
          obtain ⟨ob4, ws4, ge4, gz4, gd4⟩ := fy4.there
          have V4 := U4.suite ge4 gd4 na aL aF
          refine wpAny_mono ((hsu a ob4 cls d (X.pn ++ pins) gz4 ⟨_, gd4⟩).run [] _ _ H' _ V4 (yes rfl a na)) (fun fl t6 hsp => ?_) (fun _ _ y => False.elim y)
          cases fl with
          | next =>
            obtain ⟨σ6, H6, V6, q6⟩ := hsp
            exact ⟨_, _, V6.unsuite okX, q6⟩
          | brk =>
            obtain ⟨σ6, H6, V6, q6⟩ := hsp
            exact ⟨_, _, V6.unsuite okX, q6⟩
          | cont =>
            obtain ⟨σ6, H6, V6, q6⟩ := hsp
            exact ⟨_, _, V6.unsuite okX, q6⟩
          | ret u =>
            obtain ⟨v6, σ6, H6, V6, r6, q6⟩ := hsp
            exact ⟨_, _, _, V6.unsuite okX, r6, q6⟩
        | false => exact ih (no rfl)
      | @named x n i c ts b₀ su np p2 hds2 l2 hc hi hln hsu r ih =>
        intro wi
        obtain ⟨b, hb1, yes, no⟩ := wi
        refine wpAny_handleBy_cons (codeAny_handlers_test ?_) (by intro y; cases y)
        have LT : PySem.W.Looks (model X.prog X.w) g3 (typeOf (.ref a)) cls := fun A Q E s k y => wpAny_typeOf_ref (k _ _ ge3) (by rw [gz3.1]; exact y)
        refine tested hc ((PySem.W.exm_one (M := model X.prog X.w) U3.kIn LT hb1).here ?_)
        cases b with
        | true =>
          refine codeAny_handlers_suite_as ?_
          refine HandSPX.lands_againZ fy3 fun g4 fy4 gu4 => ?_
          have U4 : Inv X pins σ' H' { t with heap := g4 } := U.landed nb fy4.1 ((up.trans gu3).trans gu4) os ag
          obtain ⟨ob4, ws4, ge4, gz4, gd4⟩ := fy4.there
          have V4 := U4.suite ge4 gd4 na aL aF
          refine store_ok (X := X.suite a ((a, ob4) :: (X.pn ++ pins))) (v := .ref a) V4 kN hi (.inl hln) rfl (fun t5 V5 => ?_) (.inr hln)
          refine wpAny_mono ((hsu a ob4 cls d (X.pn ++ pins) gz4 ⟨_, gd4⟩).run [] t5 _ H' _ V5 (yes rfl a na)) (fun fl t6 hsp => ?_) (fun _ _ y => False.elim y)
          have closed : ∀ {σ6 : L2.St} {H6 : Hp} {Q : Shared → Prop}, Inv (X.suite a ((a, ob4) :: (X.pn ++ pins))) [] σ6 H6 t6 → (∀ t7, Inv X pins (σ6.set i none) H6 t7 → Q t7) →
              wpAny (model X.prog X.w) X.A (do bindName X.env n .none; unbindBehindTheSuite X.env n p2) (fun _ t7 => Q t7) X.xe t6 := fun {σ6 H6 Q} V6 hq => gone_ok (V6.unsuite okX) kN hi hln hq
          cases fl with
          | next =>
            obtain ⟨σ6, H6, V6, q6⟩ := hsp
            exact closed V6 fun t7 U7 => ⟨_, _, U7, q6⟩
          | brk =>
            obtain ⟨σ6, H6, V6, q6⟩ := hsp
            exact closed V6 fun t7 U7 => ⟨_, _, U7, q6⟩
          | cont =>
            obtain ⟨σ6, H6, V6, q6⟩ := hsp
            exact closed V6 fun t7 U7 => ⟨_, _, U7, q6⟩
          | ret u =>
            obtain ⟨v6, σ6, H6, V6, r6, q6⟩ := hsp
            exact closed V6 fun t7 U7 => ⟨_, _, _, U7, r6, q6⟩
        | false => exact ih (no rfl)
    exact go kh wish
  · cases fl with
    | next =>
      obtain ⟨σ', H', U', q⟩ := hsp
      exact wpAny_execs_nil ⟨σ', H', U'.ofTry okX, q⟩
    | brk =>
      obtain ⟨σ', H', U', q⟩ := hsp
      exact ⟨σ', H', U'.ofTry okX, q⟩
    | cont =>
      obtain ⟨σ', H', U', q⟩ := hsp
      exact ⟨σ', H', U'.ofTry okX, q⟩
    | ret u =>
      obtain ⟨v, σ', H', U', r, q⟩ := hsp
      exact ⟨v, σ', H', U'.ofTry okX, r, q⟩
end
end EV
/-! SdQ: within except suites: the caught error asked; try. -/
namespace EV
open PySem PySem.Spec PyProof.Rows L2

/-- what is known of the error classes -/
structure ExsOk (K : Fg) (G : Gl) : Prop where
  fld : ∀ C i, G.excs.lookup C = some i → XfC K (He.ga K C)
  no : ∀ C i, G.excs.lookup C = some i → ∀ n, i.fields.contains n = true → PySem.W.findIn K (.ref (He.ga K C)) n = some none
  kit : ∀ C i, G.excs.lookup C = some i → (PySem.W.clsIn K (He.ga K C)).isSome = true ∧ PySem.W.findIn K (.ref (He.ga K C)) "__class__" = some (some (.builtin "object.__class__")) ∧ PySem.W.mroIn K (He.ga K C) (.type "object") = some true
  gs : PySem.W.specialIn K (.builtin "object.__class__") "__get__" = some (some (.builtin "getset_descriptor.__get__")) ∧ PySem.W.takesIn K (.builtin "object.__class__") = some true
  exm : ∀ C i D j, G.excs.lookup C = some i → G.excs.lookup D = some j → PySem.W.exmOne K (.ref (He.ga K C)) (.ref (He.ga K D)) = some (i.bases.contains D)
  isi : ∀ C i D j, G.excs.lookup C = some i → G.excs.lookup D = some j → PySem.W.kitOne K (.ref (He.ga K C)) (.ref (He.ga K D)) = some (i.bases.contains D)
/-- the held error's record -/
def heldAt (K : Fg) (a : Addr) (cls : Value) (d : Option Addr) : Addr → Str × Option Addr → Prop := fun p c => p = a ∧ cls = .ref (He.ga K c.1) ∧ d = c.2
section
variable {X : Cx} {G : Gl} {cl : CallF} {base : Nat} {pos : Pos} {e te : Expr} {c : E} {W : WX} {Bs : BX} {a : Addr} {oe : Obj} {cls : Value} {d : Option Addr} {pn : List (Addr × Obj)}
theorem pe_no {X : Cx} {e : Expr} : PE X e (fun _ _ _ => False) := ⟨fun _ _ _ _ _ _ h => h.elim⟩
/-- e.n, e the held error -/
theorem sd_xat {n : Str} (hE : ExsOk X.K G) (hz : Zc cls d oe) (hf : ∃ vs, oe.data = .fields vs) (hx : ∀ p q, Bs.xo p q → heldAt X.K a cls d p q) (he : PE (X.suite a ((a, oe) :: pn)) e (TV (X.suite a ((a, oe) :: pn)) Bs W (evE G cl base c)))
    (hb : attributeBase e n X.env (eval e X.env) = eval e X.env) : PE (X.suite a ((a, oe) :: pn)) (.Attribute e n pos) (TV (X.suite a ((a, oe) :: pn)) Bs W (evE G cl base (.xat c n))) := by
  by_cases hc : ∃ C i, G.excs.lookup C = some i ∧ cls = .ref (He.ga X.K C) ∧ i.fields.contains n = true
  · obtain ⟨C, i, hC, ec, hn⟩ := hc
    refine PE.imp (pe_xf (hE.fld C i hC) (hE.no C i hC n hn) hz hf he hb) fun σ H Q h => T.bind (Rp := rV X.K) (g := fun _ v cs => R.of (xatV G v n) cs) h fun w s v x cs H1 hs hh r run => ?_
    obtain ⟨u, eu, run2⟩ := run.some_
    cases r with
    | @exn0 C2 p hp =>
      unfold xatV at eu
      simp only at eu
      split at eu
      · split at eu
        · cases eu
        · cases eu
      · cases eu
    | @exn C2 fs p dd gs hp hd hr =>
      unfold xatV at eu
      simp only at eu
      split at eu
      · split at eu
        · obtain ⟨e1, e2, e3⟩ := hx _ _ (hh.xo _ _ hp)
          rcases hr.look (f := n) with ⟨h1, _⟩ | ⟨y, b, h1, h2, h3⟩
          · rw [eu] at h1
            cases h1
          · rw [eu] at h1
            cases h1
            exact ⟨by rw [e1], ec, dd, gs, b, e3, hh.fr _ _ hd, h2, Run.done (Rp := rV X.K) (a := u) run2 hh h3⟩
        · cases eu
      · cases eu
    | _ => cases eu
  · refine ⟨fun pins s σ H Q I h => attr_of hb (thn (he.run pins s σ H (fun _ _ => False) I ?_) fun u s1 ⟨_, _, _, _, q⟩ => q.elim)⟩
    refine T.bind (Rp := rV X.K) (g := fun _ v cs => R.of (xatV G v n) cs) h fun w s v x cs H1 hs hh r run => ?_
    obtain ⟨u, eu, run⟩ := run.some_
    have key : ∀ (C2 : Str) (fs : List (Str × Val)) (p : Addr) (dd : Option Addr), w.x p = some (C2, dd) → xatV G (.exn C2 fs) n = some u → False := fun C2 fs p dd hp eu => by
      unfold xatV at eu
      simp only at eu
      split at eu
      · rename_i i hi
        split at eu
        · rename_i hn
          exact hc ⟨C2, i, hi, (hx _ _ (hh.xo _ _ hp)).2.1, hn⟩
        · cases eu
      · cases eu
    cases r with
    | exn0 hp => exact key _ _ _ _ hp eu
    | exn hp hd hr => exact key _ _ _ _ hp eu
    | _ => cases eu
/-- isinstance of the held error, by values -/
theorem call_isX (hE : ExsOk X.K G) {C : Str} {i : ExcI} (hC : G.excs.lookup C = some i) (hz : Zc (.ref (He.ga X.K C)) d oe) (hf : ∃ vs, oe.data = .fields vs) {pins : List (Addr × Obj)} {s : Shared} {σ : L2.St} {H : Hp} {Q : VK} {D : Str} {j : ExcI} (hD : G.excs.lookup D = some j)
    (I : Inv (X.suite a ((a, oe) :: pn)) pins σ H s) (hd : d = none ∨ ∃ dd gs, d = some dd ∧ H dd = some (.xd gs)) (q : Q (.bl (i.bases.contains D)) H) :
    wpAny (model X.prog X.w) (X.suite a ((a, oe) :: pn)).A (call (.builtin "isinstance") [.ref a, .ref (He.ga X.K D)]) (EP (X.suite a ((a, oe) :: pn)) pins σ Q) (X.suite a ((a, oe) :: pn)).xe s := by
  obtain ⟨hget, _⟩ := I.pin (a, oe) (List.mem_append.mpr (.inl List.mem_cons_self))
  obtain ⟨vs, hv⟩ := hf
  have hI : ∃ od, PySem.W.InstAt s.heap a oe (He.ga X.K C) od := by
    rcases hd with e | ⟨dd, gs, e, hdd⟩
    · exact ⟨none, hget, hz.1, by unfold PySem.W.notCls; rw [hv] <;> rfl, by rw [hz.2, e]; trivial⟩
    · obtain ⟨mA, hns, _⟩ := (show ObjOk X.prog X.w H s.heap dd (.xd gs) from I.hok dd _ hdd)
      obtain ⟨od, ho, _⟩ := lookIn_ns hns
      exact ⟨some od, hget, hz.1, by unfold PySem.W.notCls; rw [hv] <;> rfl, by rw [hz.2, e]; exact ho⟩
  obtain ⟨od, J⟩ := hI
  have hc := hE.fld C i hC
  obtain ⟨k1, k2, k3⟩ := hE.kit C i hC
  exact PySem.W.kia_one (PySem.W.kitx_exc (od := od) (ox := oe) k1 hc.ga hc.gg hc.exC k2 hE.gs.1 hE.gs.2 k3) I.kIn J (hE.isi C i D j hC hD) (fun z => nomatch z) fun tk => ⟨.bl _, H, I.kept (t' := tk) fun _ _ z => z, rfl, q⟩
/-- isinstance(e, D), e the held error -/
theorem sd_isx {p : Pos} {D : Str} (hE : ExsOk X.K G) (hz : Zc cls d oe) (hf : ∃ vs, oe.data = .fields vs) (hx : ∀ p q, Bs.xo p q → heldAt X.K a cls d p q) (hg : L2.Gl X "isinstance") (hm : X.mg "isinstance" = none) (hv : bootBuiltins "isinstance" = some (.builtin "isinstance"))
    (he : PE (X.suite a ((a, oe) :: pn)) e (TV (X.suite a ((a, oe) :: pn)) Bs W (evE G cl base c))) (ht : PE (X.suite a ((a, oe) :: pn)) te (tC (.ref (He.ga X.K D))))
    (hs : starEach [e, te] X.env = (false, eval e X.env) :: starEach [te] X.env) (hs2 : starEach [te] X.env = (false, eval te X.env) :: starEach [] X.env) (hpl : (backTo pos (starEach [te] X.env)).any (·.1) = false) :
    PE (X.suite a ((a, oe) :: pn)) (.Call (.Name "isinstance" p) [e, te] [] pos) (TV (X.suite a ((a, oe) :: pn)) Bs W (evE G cl base (.isx c [.cls D]))) := by
  have hcr : CallR (X.suite a ((a, oe) :: pn)) (.builtin "isinstance") (fun xs H Q => ∃ C i j, xs = [.ref a, .ref (He.ga X.K D)] ∧ G.excs.lookup C = some i ∧ G.excs.lookup D = some j ∧ cls = .ref (He.ga X.K C) ∧ (d = none ∨ ∃ dd gs, d = some dd ∧ H dd = some (.xd gs)) ∧ Q (.bl (i.bases.contains D)) H) := by
    intro pins s σ H xs us Q I r ⟨C, i, j, ex, hC, hD, ec, hd, q⟩
    subst ex ec
    cases r with
    | cons r1 r2 =>
      cases r2 with
      | cons r2 r3 =>
        cases r3
        cases r1
        cases r2
        exact call_isX hE hC hz hf hD I hd q
  refine PE.imp (pe_callB hcr hg hm hv (pa_cons he (pa_cons ht pa_nil hs2) hs) (by decide) (by decide) hs hpl) fun σ H Q h => ?_
  refine T.bind (Rp := rV X.K) (Q1 := fun x H1 => tCons (tC (.ref (He.ga X.K D))) tNil σ H1 fun xs H2 => ∃ C i j, x :: xs = [.ref a, .ref (He.ga X.K D)] ∧ G.excs.lookup C = some i ∧ G.excs.lookup D = some j ∧ cls = .ref (He.ga X.K C) ∧ (d = none ∨ ∃ dd gs, d = some dd ∧ H2 dd = some (.xd gs)) ∧ Q (.bl (i.bases.contains D)) H2)
    (g := fun _ v cs => R.of ((isxAny G v [.cls D]).map Val.bl) cs) h fun w s v x cs H1 hs hh r run => ?_
  have key : ∀ (C2 : Str) (fs : List (Str × Val)) (p : Addr) (dd : Option Addr), x = .ref p → v = .exn C2 fs → w.x p = some (C2, dd) → (d = none ∨ ∃ dd gs, d = some dd ∧ H1 dd = some (.xd gs)) →
      ∃ C i j, x :: [.ref (He.ga X.K D)] = [.ref a, .ref (He.ga X.K D)] ∧ G.excs.lookup C = some i ∧ G.excs.lookup D = some j ∧ cls = .ref (He.ga X.K C) ∧ (d = none ∨ ∃ dd gs, d = some dd ∧ H1 dd = some (.xd gs)) ∧ Q (.bl (i.bases.contains D)) H1 := fun C2 fs p dd ex ev hp hd => by
    subst ev
    obtain ⟨h1, h2, h3⟩ := hx _ _ (hh.xo _ _ hp)
    cases ea : isxAny G (.exn C2 fs) [.cls D] with
    | none => rw [ea] at run; exact run.elim
    | some b =>
      rw [ea] at run
      have e1 : isxOne G (.exn C2 fs) (.cls D) = some b := by
        unfold isxAny at ea
        cases e1 : isxOne G (.exn C2 fs) (.cls D) with
        | none => rw [e1] at ea; cases ea
        | some b2 =>
          rw [e1] at ea
          cases b2 with
          | true => exact ea
          | false => exact ea
      unfold isxOne at e1
      simp only at e1
      split at e1
      · rename_i i hi
        split at e1
        · rename_i hj
          obtain ⟨j, hj⟩ := Option.isSome_iff_exists.mp hj
          cases e1
          exact ⟨C2, i, j, by rw [ex, h1], hi, hj, h2, hd, Run.done (a := Val.bl _) run hh (.bl _)⟩
        · cases e1
      · cases e1
  cases r with
  | @exn0 C2 p hp => exact key C2 [] p none rfl rfl hp (.inl (hx _ _ (hh.xo _ _ hp)).2.2)
  | @exn C2 fs p dd gs hp hd hr => exact key C2 fs p (some dd) rfl rfl hp (.inr ⟨dd, gs, (hx _ _ (hh.xo _ _ hp)).2.2, hh.fr _ _ hd⟩)
  | _ => exact run.elim
end
end EV
/-! SdR: try. -/
namespace EV
open PySem PySem.Spec PyProof.Rows L2

section
variable {K : Fg} {w w' : Wd}
mutual
theorem RepV.nx (hn : w'.n = w.n) (hi : ∀ a, a < w.n → w'.i a = w.i a) (hF : w'.F = w.F) : ∀ {v : Val} {x : V}, v.nox = true → RepV K w v x → RepV K w' v x
  | _, _, _, .non => .non
  | _, _, _, .bl b => .bl b
  | _, _, _, .int i => .int i
  | _, _, _, .str s => .str s
  | _, _, u, .tup h r => .tup (by rw [hF]; exact h) (RepL.nx hn hi hF u r)
  | _, _, u, .lst h r => .lst (by rw [hF]; exact h) (RepL.nx hn hi hF u r)
  | _, _, _, .scr h => .scr (by rw [hF]; exact h)
  | _, _, u, .dct h r => .dct (by rw [hF]; exact h) (RepD.nx hn hi hF u r)
  | _, _, u, .obj h g r => .obj (by rw [hF]; exact h) (by rw [hF]; exact g) (RepF.nx hn hi hF u r)
  | .ref a, _, u, .ref h => by
    rw [← hi a h]
    exact .ref (by rw [hn]; exact h)
  | _, _, _, .glo x => .glo x
  | _, _, u, .exn0 h => nomatch u
  | _, _, u, .exn h g r => nomatch u
theorem RepL.nx (hn : w'.n = w.n) (hi : ∀ a, a < w.n → w'.i a = w.i a) (hF : w'.F = w.F) : ∀ {v : List Val} {x : List V}, Val.noxL v = true → RepL K w v x → RepL K w' v x
  | _, _, _, .nil => .nil
  | _, _, u, .cons h r => .cons (RepV.nx hn hi hF (and2 u).1 h) (RepL.nx hn hi hF (and2 u).2 r)
theorem RepD.nx (hn : w'.n = w.n) (hi : ∀ a, a < w.n → w'.i a = w.i a) (hF : w'.F = w.F) : ∀ {v : List (Val × Val)} {x : List (Key × V)}, Val.noxD v = true → RepD K w v x → RepD K w' v x
  | _, _, _, .nil => .nil
  | _, _, u, .cons k h r => .cons k (RepV.nx hn hi hF (and2 (and2 u).2).1 h) (RepD.nx hn hi hF (and2 (and2 u).2).2 r)
theorem RepF.nx (hn : w'.n = w.n) (hi : ∀ a, a < w.n → w'.i a = w.i a) (hF : w'.F = w.F) : ∀ {v : List (Str × Val)} {x : List (Str × V)}, Val.noxF v = true → RepF K w v x → RepF K w' v x
  | _, _, _, .nil => .nil
  | _, _, u, .cons h r => .cons (RepV.nx hn hi hF (and2 u).1 h) (RepF.nx hn hi hF (and2 u).2 r)
end
theorem RepOb.nx {H : Hp} {p : Addr} {o : Ob} (hn : w'.n = w.n) (hi : ∀ a, a < w.n → w'.i a = w.i a) (hF : w'.F = w.F) (u : o.nox = true) (r : RepOb K w H p o) : RepOb K w' H p o := by
  cases o with
  | lst xs =>
    obtain ⟨ys, h, r⟩ := r
    exact ⟨ys, h, r.nx hn hi hF u⟩
  | dct xs =>
    obtain ⟨ys, h, r⟩ := r
    exact ⟨ys, h, r.nx hn hi hF u⟩
  | ins C fs =>
    obtain ⟨dx, gs, h, d, f, r⟩ := r
    exact ⟨dx, gs, h, d, by rw [hF]; exact f, r.nx hn hi hF u⟩
/-- the held errors exchanged -/
theorem HRel.nx {Bs Bs' : BX} {cs : Cells} {H : Hp} (h : HRel K w Bs cs H) (hn : w'.n = w.n) (hi : w'.i = w.i) (hF : w'.F = w.F) (hA : w'.A = w.A) (hl : Bs'.l = Bs.l) (hx : ∀ p c, w'.x p = some c → Bs'.xo p c) (u : cs.all Ob.nox = true) : HRel K w' Bs' cs H := by
  have hm : ∀ b, b ∈ Bs' → b ∈ Bs := fun b hb => by
    have hb : b ∈ Bs'.l := hb
    rw [hl] at hb
    exact hb
  refine ⟨hn.trans h.n, by rw [hF]; exact h.fr, by rw [hA, hF]; exact h.ac, fun a o z => ?_, by rw [hn, hi]; exact h.inj, fun b hb => h.clean b (hm b hb), fun b hb => h.bs b (hm b hb), hx⟩
  obtain ⟨h1, h2, h3⟩ := h.cell a o z
  rw [hi, hF, hA]
  exact ⟨h1.nx hn (fun a _ => by rw [hi]) hF (List.all_eq_true.mp u o (List.mem_of_getElem? z)), h2, h3⟩
theorem SRel.nx {s : LSt} {σ : L2.St} (h : SRel K w s σ) (hn : w'.n = w.n) (hi : w'.i = w.i) (hF : w'.F = w.F) (u : s.all (fun o => match o with
    | some v => v.nox
    | none => true) = true) : SRel K w' s σ := ⟨h.len, fun i v e => by
  obtain ⟨x, h1, h2⟩ := h.at_ i v e
  exact ⟨x, h1, h2.nx hn (fun a _ => by rw [hi]) hF (List.all_eq_true.mp u (some v) (List.mem_of_getElem? e))⟩⟩
end
abbrev WF : WX := fun _ _ _ _ => False
def Fr.held (f : Fr) (K : Fg) (a : Addr) (cls : Value) (d : Option Addr) : Fr := { f with Bs := ⟨f.Bs.l, heldAt K a cls d⟩ }
/-- the clauses, translated -/
inductive HsOk (X : Cx) (f : Fr) (G : Gl) (cl : CallF) : List ExceptHandler → Hs → List Clz → Prop
  | nil : HsOk X f G cl [] .nil []
  | plain {x C : Str} {j : ExcI} {b₀ : Stmt} {su : List Stmt} {np p2 : Pos} {hds : List ExceptHandler} {b : Ss} {r : Hs} {l : List Clz} : Names X x (.ref (He.ga X.K C)) → G.excs.lookup C = some j →
      (∀ (a : Addr) (oe : Obj) (cls : Value) (d : Option Addr) (pn : List (Addr × Obj)), Zc cls d oe → (∃ vs, oe.data = .fields vs) → PSs (X.suite a ((a, oe) :: pn)) (b₀ :: su) (TSm X.K (f.held X.K a cls d) WF (evSs G cl f.base f.keep b))) → HsOk X f G cl hds r l →
      HsOk X f G cl (.ExceptHandler (some (.Name x np)) none (b₀ :: su) p2 :: hds) (.cons C none b r) (⟨.ref (He.ga X.K C), none, fun a cls d => TSm X.K (f.held X.K a cls d) WF (evSs G cl f.base f.keep b)⟩ :: l)
  | named {x C n : Str} {i : Nat} {j : ExcI} {b₀ : Stmt} {su : List Stmt} {np p2 : Pos} {hds : List ExceptHandler} {b : Ss} {r : Hs} {l : List Clz} : Names X x (.ref (He.ga X.K C)) → G.excs.lookup C = some j → X.N[i]? = some n → X.env.kindOf n = some .local →
      (∀ (a : Addr) (oe : Obj) (cls : Value) (d : Option Addr) (pn : List (Addr × Obj)), Zc cls d oe → (∃ vs, oe.data = .fields vs) → PSs (X.suite a ((a, oe) :: pn)) (b₀ :: su) (TSm X.K (f.held X.K a cls d) WF (evSs G cl f.base f.keep b))) → HsOk X f G cl hds r l →
      HsOk X f G cl (.ExceptHandler (some (.Name x np)) (some n) (b₀ :: su) p2 :: hds) (.cons C (some i) b r) (⟨.ref (He.ga X.K C), some i, fun a cls d => TSm X.K (f.held X.K a cls d) WF (evSs G cl f.base f.keep b)⟩ :: l)
theorem HsOk.clz {X : Cx} {f : Fr} {G : Gl} {cl : CallF} {hds : List ExceptHandler} {hs : Hs} {l : List Clz} (h : HsOk X f G cl hds hs l) : ClzOk X hds l := by
  induction h with
  | nil => exact .nil
  | plain h1 _ h3 _ ih => exact .plain h1 h3 ih
  | named h1 _ h2 h3 h4 _ ih => exact .named h1 h2 h3 h4 ih
section
variable {X : Cx} {W : WX} {f : Fr} {G : Gl} {cl : CallF}
theorem one_clause {D : Ends} {w : Wd} {σ : L2.St} {H : Hp} {s : LSt} {cs : Cells} {x : Exn} {c : Value} {d : Option Addr} {i : Option Nat} {b : Ss} (hs : SRel X.K w s σ) (hh : HRel X.K w f.Bs cs H) (rx : RepX X.K w x c d)
    (run : RunS X.K f W w D (if noexn s cs && Val.noxF x.fs then match evSs G cl f.base f.keep b (setO i (.exn x.C x.fs) s) cs with
      | .nx s cs => if noexn (unsO i s) cs then .nx (unsO i s) cs else .bad
      | _ => .bad
      else .bad)) (z : Clz) (hz : z.i = i) : ∀ a, H a = none → TSm X.K (f.held X.K a c d) WF (evSs G cl f.base f.keep b) (z.ends D) (z.slots a σ) H := by
  intro a ha
  split at run
  · rename_i hc
    obtain ⟨hne, hnf⟩ := and2 hc
    obtain ⟨hns, hnc⟩ := and2 hne
    obtain ⟨ec, rx⟩ := rx
    let w1 : Wd := { w with x := fun p => if p = a then some (x.C, d) else none }
    have hs1 : SRel X.K w1 s σ := hs.nx rfl rfl rfl hns
    have hh1 : HRel X.K w1 (f.held X.K a c d).Bs cs H := hh.nx rfl rfl rfl rfl rfl (fun p q e => by
      have e : (if p = a then some (x.C, d) else none) = some q := e
      by_cases hp : p = a
      · rw [if_pos hp] at e
        cases e
        exact ⟨hp, ec, rfl⟩
      · rw [if_neg hp] at e
        cases e) hnc
    have hself : RepV X.K w1 (.exn x.C x.fs) (.ref a) := by
      have hxa : w1.x a = some (x.C, d) := if_pos rfl
      rcases rx with ⟨h1, h2⟩ | ⟨dd, gs, h1, h2, h3⟩
      · rw [h1]
        rw [h2] at hxa
        exact .exn0 hxa
      · rw [h1] at hxa
        exact .exn hxa h2 (RepF.nx (w := w) (w' := w1) rfl (fun _ _ => rfl) rfl hnf h3)
    refine ⟨w1, setO i (.exn x.C x.fs) s, cs, ?_, hh1, ?_⟩
    · unfold Clz.slots setO
      rw [hz]
      cases i with
      | none => exact hs1
      | some i => exact hs1.set i hself
    · cases eb : evSs G cl f.base f.keep b (setO i (.exn x.C x.fs) s) cs with
      | nx s2 cs2 =>
        rw [eb] at run
        simp only at run
        split at run
        · rename_i hc2
          obtain ⟨hs2n, hc2n⟩ := and2 hc2
          intro w2 σ2 H2 l2 hs2 hh2
          have l3 : w.le { w2 with x := w.x } := ⟨l2.n, l2.i, l2.F, l2.A, rfl⟩
          have hh3 : HRel X.K { w2 with x := w.x } f.Bs cs2 H2 := hh2.nx rfl rfl rfl rfl rfl hh.xo hc2n
          unfold Clz.ends
          rw [hz]
          cases i with
          | none => exact run _ σ2 H2 l3 (hs2.nx rfl rfl rfl hs2n) hh3
          | some i => exact run _ _ H2 l3 ((hs2.unset i (x := none)).nx rfl rfl rfl hs2n) hh3
        · exact run.elim
      | rt v cs2 => rw [eb] at run; exact run.elim
      | bk s2 cs2 => rw [eb] at run; exact run.elim
      | ct s2 cs2 => rw [eb] at run; exact run.elim
      | exc x2 s2 cs2 => rw [eb] at run; exact run.elim
      | bad => rw [eb] at run; exact run.elim
  · exact run.elim
theorem hs_wish (hE : ExsOk X.K G) {D : Ends} {w : Wd} {σ : L2.St} {H : Hp} {s : LSt} {cs : Cells} {x : Exn} {c : Value} {d : Option Addr} (hs : SRel X.K w s σ) (hh : HRel X.K w f.Bs cs H) (rx : RepX X.K w x c d) : ∀ {hds : List ExceptHandler} {hz : Hs} {l : List Clz}, HsOk X f G cl hds hz l →
    RunS X.K f W w D (evHs G cl f.base f.keep hz x s cs) → wClz X.K W D l c d σ H := by
  have go : ∀ (C : Str) (j : ExcI) (i : Option Nat) (b : Ss) (r : Hs) (z : Clz) (l : List Clz), G.excs.lookup C = some j → z.c = .ref (He.ga X.K C) → z.i = i → (z.ts = fun a cls d => TSm X.K (f.held X.K a cls d) WF (evSs G cl f.base f.keep b)) →
      (RunS X.K f W w D (evHs G cl f.base f.keep r x s cs) → wClz X.K W D l c d σ H) → RunS X.K f W w D (evHs G cl f.base f.keep (.cons C i b r) x s cs) → wClz X.K W D (z :: l) c d σ H := by
    intro C j i b r z l hC hc hi ht ih run
    have run : RunS X.K f W w D (match G.excs.lookup x.C with
      | some ei => if ei.bases.contains C then (if noexn s cs && Val.noxF x.fs then match evSs G cl f.base f.keep b (setO i (.exn x.C x.fs) s) cs with
          | .nx s cs => if noexn (unsO i s) cs then .nx (unsO i s) cs else .bad
          | _ => .bad
        else .bad)
        else evHs G cl f.base f.keep r x s cs
      | none => .bad) := run
    cases ex : G.excs.lookup x.C with
    | none => rw [ex] at run; exact run.elim
    | some ei =>
      rw [ex] at run
      simp only at run
      refine ⟨ei.bases.contains C, by rw [hc, rx.1]; exact hE.exm _ _ _ _ ex hC, fun hb => ?_, fun hb => ?_⟩
      · rw [if_pos hb] at run
        rw [ht]
        exact one_clause hs hh rx run z hi
      · rw [if_neg (by rw [hb]; exact Bool.false_ne_true)] at run
        exact ih run
  intro hds hz l hk
  induction hk with
  | nil => exact fun run => run w σ H c d .rfl hs hh rx
  | plain h1 h2 h3 _ ih => exact fun run => go _ _ _ _ _ _ _ h2 rfl rfl rfl ih run
  | named h1 h2 h3 h4 h5 _ ih => exact fun run => go _ _ _ _ _ _ _ h2 rfl rfl rfl ih run
/-- try: .. except .. -/
theorem sd_try {fdm : Str → FuncData} {k : Nat} {pos : Pos} {body : List Stmt} {z₀ : ExceptHandler} {zs : List ExceptHandler} {l : List Clz} {b : Ss} {hz : Hs} (hE : ExsOk X.K G) (g : GoodF G cl fdm X W f k)
    (kb : ∀ (W : WX) (pn : List (Addr × Obj)) (xe : Value → Shared → Prop), Takes (X.tr pn xe) W → PassesOwn (model X.prog X.w) X.A X.env xe → PSs (X.tr pn xe) body (TSm X.K f W (evSs G cl f.base f.keep b))) (kh : HsOk X f G cl (z₀ :: zs) hz l) :
    PS X (.Try body (z₀ :: zs) [] [] pos) (TM1 X f W G cl (.try_ b hz)) := by
  refine PS.imp (ps_clz (tb := fun W => TSm X.K f W (evSs G cl f.base f.keep b)) g.stk g.fra g.hN g.tk kb kh.clz) fun D σ H ⟨w, s, cs, hs, hh, hr⟩ => ⟨w, s, cs, hs, hh, ?_⟩
  have hr : RunS X.K f W w D (match evSs G cl f.base f.keep b s cs with
    | .exc x s cs => evHs G cl f.base f.keep hz x s cs
    | r => r) := hr
  show RunS X.K f _ w D (evSs G cl f.base f.keep b s cs)
  cases eb : evSs G cl f.base f.keep b s cs with
  | exc x s1 cs1 =>
    rw [eb] at hr
    exact fun w' σ' H' c d l' hs' hh' rx => hs_wish hE hs' hh' rx kh (hr.mono l')
  | nx s1 cs1 => rw [eb] at hr; exact hr
  | rt v cs1 => rw [eb] at hr; exact hr
  | bk s1 cs1 => rw [eb] at hr; exact hr
  | ct s1 cs1 => rw [eb] at hr; exact hr
  | bad => rw [eb] at hr; exact hr
end
end EV
/-! SdS: comprehensions. -/
namespace EV
open PySem PySem.Spec PyProof.Rows L2

/-! ### a thing being made -/
def Wd.withA (w : Wd) (D : Addr) (o : Option HO) : Wd := { w with A := fun p => if p = D then o else w.A p }
section
variable {K : Fg} {w : Wd} {Bs : BX} {cs : Cells} {H : Hp} {D : Addr}
theorem withA_at {o : Option HO} : (w.withA D o).A D = o := if_pos rfl
theorem withA_ne {o : Option HO} {p : Addr} (h : p ≠ D) : (w.withA D o).A p = w.A p := if_neg h
theorem RepV.wA {o : Option HO} {v : Val} {x : V} (r : RepV K w v x) : RepV K (w.withA D o) v x := RepV.tr (w := w) (w' := w.withA D o) (b := w.n) (fun a _ h => ⟨h, rfl⟩) (fun _ _ e => e) rfl (rep_undr r) r
theorem RepL.wA {o : Option HO} {v : List Val} {x : List V} (r : RepL K w v x) : RepL K (w.withA D o) v x := RepL.tr (w := w) (w' := w.withA D o) (b := w.n) (fun a _ h => ⟨h, rfl⟩) (fun _ _ e => e) rfl (rep_undrL r) r
theorem RepD.wA {o : Option HO} {v : List (Val × Val)} {x : List (Key × V)} (r : RepD K w v x) : RepD K (w.withA D o) v x := RepD.tr (w := w) (w' := w.withA D o) (b := w.n) (fun a _ h => ⟨h, rfl⟩) (fun _ _ e => e) rfl (rep_undrD r) r
theorem RepOb.wA {o : Option HO} {p : Addr} {ob : Ob} (r : RepOb K w H p ob) : RepOb K (w.withA D o) H p ob := RepOb.tr (w := w) (w' := w.withA D o) (b := w.n) (fun a _ h => ⟨h, rfl⟩) (fun _ _ e => e) rfl (fun _ _ f => f) r.undr r
theorem SRel.wA {o : Option HO} {s : LSt} {σ : L2.St} (h : SRel K w s σ) : SRel K (w.withA D o) s σ := ⟨h.len, fun i v e => by
  obtain ⟨x, h1, h2⟩ := h.at_ i v e
  exact ⟨x, h1, h2.wA⟩⟩
/-- it is dropped: what was made stays -/
theorem HRel.unA (h : HRel K w Bs cs H) : HRel K (w.withA D none) Bs cs H := by
  refine ⟨h.n, h.fr, fun p o e => ?_, fun a ob z => ?_, h.inj, h.clean, h.bs, h.xo⟩
  · by_cases hp : p = D
    · subst hp
      rw [withA_at] at e
      cases e
    · rw [withA_ne hp] at e
      exact h.ac p o e
  · obtain ⟨h1, h2, h3⟩ := h.cell a ob z
    refine ⟨h1.wA, h2, ?_⟩
    by_cases hp : w.i a = D
    · show (w.withA D none).A (w.i a) = none
      rw [hp, withA_at]
    · show (w.withA D none).A (w.i a) = none
      rw [withA_ne hp]
      exact h3
/-- it is laid -/
theorem HRel.addA (h : HRel K w Bs cs H) {o : HO} (e : H D = none) (ho : cellHO o = true) : HRel K (w.withA D (some o)) Bs cs (upd H D o) := by
  have h' := upd_new (o := o) h e
  refine ⟨h'.n, h'.fr, fun p u z => ?_, fun a ob z => ?_, h'.inj, h'.clean, h'.bs, h'.xo⟩
  · by_cases hp : p = D
    · subst hp
      rw [withA_at] at z
      cases z
      exact ⟨upd_same, h.none_F e, ho⟩
    · rw [withA_ne hp] at z
      exact h'.ac p u z
  · obtain ⟨h1, h2, h3⟩ := h'.cell a ob z
    refine ⟨h1.wA, h2, ?_⟩
    show (w.withA D (some o)).A (w.i a) = none
    rw [withA_ne (h.none_i e (h.lt z))]
    exact h3
/-- it is changed -/
theorem HRel.setA (h : HRel K w Bs cs H) {o o' : HO} (e : w.A D = some o) (ho : cellHO o' = true) : HRel K (w.withA D (some o')) Bs cs (upd H D o') := by
  obtain ⟨e1, e2, e3⟩ := h.ac D o e
  refine ⟨h.n, fun p u z => ?_, fun p u z => ?_, fun a ob z => ?_, h.inj, h.clean, h.bs, h.xo⟩
  · rw [upd_ne fun y => by rw [y] at z; exact absurd (z.symm.trans e2) (by simp)]
    exact h.fr p u z
  · by_cases hp : p = D
    · subst hp
      rw [withA_at] at z
      cases z
      exact ⟨upd_same, e2, ho⟩
    · rw [withA_ne hp] at z
      rw [upd_ne hp]
      exact h.ac p u z
  · obtain ⟨h1, h2, h3⟩ := h.cell a ob z
    have hne : w.i a ≠ D := fun y => by
      rw [y, e] at h3
      cases h3
    refine ⟨?_, h2, ?_⟩
    · have r := h1.wA (D := D) (o := some o')
      cases ob with
      | lst xs =>
        obtain ⟨ys, q, r⟩ := r
        exact ⟨ys, (upd_ne hne).trans q, r⟩
      | dct xs =>
        obtain ⟨ys, q, r⟩ := r
        exact ⟨ys, (upd_ne hne).trans q, r⟩
      | ins C fs =>
        obtain ⟨dx, gs, q, d, f, r⟩ := r
        have hd : dx ≠ D := fun y => by
          rw [y, e1] at d
          cases d
          cases e3
        exact ⟨dx, gs, (upd_ne hne).trans q, (upd_ne hd).trans d, f, r⟩
    · show (w.withA D (some o')).A (w.i a) = none
      rw [withA_ne hne]
      exact h3
theorem le_withA {w w' : Wd} {o : Option HO} (l : w.le w') (h : w.A D = none) : w.le (w'.withA D o) := ⟨l.n, l.i, l.F, fun p u z => by
  rw [withA_ne fun y => by rw [y, h] at z; cases z]
  exact l.A p u z, l.x⟩
end

/-! ### [el for t in it if c] -/
section
variable {X : Cx} {Bs : BX} {W : WX} {G : Gl} {cl : CallF} {base : Nat} {pos : Pos}
/-- the tests of a clause -/
def OcOk (X' : Cx) (Bs : BX) (G : Gl) (cl : CallF) (base : Nat) (ifs : List Expr) : Oe → Prop
  | .no => ifs = []
  | .yes c => ∃ e, ifs = [e] ∧ PT X' e (TB X' Bs WF (evE G cl base c))
def oTst (K : Fg) (Bs : BX) (G : Gl) (cl : CallF) (base : Nat) : Oe → TT
  | .no => tYes
  | .yes c => T K Bs rB WF (tst (evE G cl base c))
theorem OcOk.pts {X' : Cx} {ifs : List Expr} {o : Oe} (h : OcOk X' Bs G cl base ifs o) : PTs X' ifs (oTst X'.K Bs G cl base o) := by
  cases o with
  | no =>
    cases h
    exact pts_nil
  | yes c =>
    obtain ⟨e, rfl, h⟩ := h
    exact pts_one h
/-- the test and what follows -/
def oRun (G : Gl) (cl : CallF) (base : Nat) (o : Oe) (s : LSt) (acc : List Val) (cs : Cells) (k : Cells → R (List Val)) : R (List Val) := match o with
  | .no => k cs
  | .yes e => (evE G cl base e s cs).bind fun v cs => match truthy cs v with
    | some true => k cs
    | some false => .ok acc cs
    | none => .bad
/-- a run from which no error leaves -/
def Quiet {α : Type} (P : α → Cells → Prop) : R α → Prop
  | .ok a cs => P a cs
  | _ => False
theorem oTst_of {o : Oe} {w : Wd} {s : LSt} {cs : Cells} {σ : L2.St} {H : Hp} {acc : List Val} {k : Cells → R (List Val)} {P : List Val → Cells → Prop} {Q : Bool → Hp → Prop} (hs : SRel X.K w s σ) (hh : HRel X.K w Bs cs H) (hq : Quiet P (oRun G cl base o s acc cs k))
    (h : ∀ w1 cs1 H1, w.le w1 → HRel X.K w1 Bs cs1 H1 → (Quiet P (k cs1) → Q true H1) ∧ (P acc cs1 → Q false H1)) : oTst X.K Bs G cl base o σ H Q := by
  cases o with
  | no => exact (h w cs H .rfl hh).1 hq
  | yes e =>
    refine ⟨w, s, cs, hs, hh, ?_⟩
    have hq : Quiet P ((evE G cl base e s cs).bind fun v cs => match truthy cs v with
      | some true => k cs
      | some false => .ok acc cs
      | none => .bad) := hq
    show Run X.K Bs rB WF σ w Q ((evE G cl base e s cs).bind fun v cs => R.of (truthy cs v) cs)
    cases ee : evE G cl base e s cs with
    | bad => rw [ee] at hq; exact hq.elim
    | exc x cs1 => rw [ee] at hq; exact hq.elim
    | ok v cs1 =>
      rw [ee] at hq
      have hq : Quiet P (match truthy cs1 v with
        | some true => k cs1
        | some false => .ok acc cs1
        | none => .bad) := hq
      show Run X.K Bs rB WF σ w Q (R.of (truthy cs1 v) cs1)
      cases et : truthy cs1 v with
      | none => rw [et] at hq; exact hq.elim
      | some d =>
        rw [et] at hq
        intro w1 d' H1 l hh1 r
        obtain rfl : d = d' := r
        cases d with
        | true => exact (h w1 cs1 H1 l hh1).1 hq
        | false => exact (h w1 cs1 H1 l hh1).2 hq
theorem quiet_bind {α β : Type} {P : β → Cells → Prop} {r : R α} {k : α → Cells → R β} (h : Quiet P (r.bind k)) : ∃ a cs, r = .ok a cs ∧ Quiet P (k a cs) := by
  cases r with
  | ok a cs => exact ⟨a, cs, rfl, h⟩
  | exc x cs => exact h.elim
  | bad => exact h.elim
theorem run_quiet {α β γ : Type} {Rp : RP β γ} {w : Wd} {σ : L2.St} {Q : γ → Hp → Prop} {r : R α} {k : α → Cells → R β} (h : Run X.K Bs Rp W σ w Q ((noX r).bind k)) : Quiet (fun a cs => Run X.K Bs Rp W σ w Q (k a cs)) r := by
  cases r with
  | ok a cs => exact h
  | exc x cs => exact h.elim
  | bad => exact h.elim
/-- a loop's turn -/
theorem loopC_turn {src : Src} {set : Val → Cells → Option LSt} {b : LSt → List Val → Cells → R (List Val)} {n i : Nat} {acc : List Val} {cs : Cells} {P : List Val → Cells → Prop} (h : Quiet P (loopC src set b (n + 1) i acc cs)) :
    ∃ v s, src.at_ cs i = some v ∧ set v cs = some s ∧ Quiet (fun acc cs => Quiet P (loopC src set b n (i + 1) acc cs)) (b s acc cs) := by
  unfold loopC at h
  cases ea : src.at_ cs i with
  | none => rw [ea] at h; exact h.elim
  | some v =>
    rw [ea] at h
    cases es : set v cs with
    | none => simp only [es] at h; exact h.elim
    | some s =>
      simp only [es] at h
      refine ⟨v, s, rfl, es, ?_⟩
      cases eb : b s acc cs with
      | ok a cs1 => rw [eb] at h; exact h
      | exc x cs1 => rw [eb] at h; exact h
      | bad => rw [eb] at h; exact h
theorem loopC_end {src : Src} {set : Val → Cells → Option LSt} {b : LSt → List Val → Cells → R (List Val)} {i : Nat} {acc : List Val} {cs : Cells} {P : List Val → Cells → Prop} (h : Quiet P (loopC src set b 0 i acc cs)) : (∃ ys, src.now cs = some ys) ∧ P acc cs := by
  unfold loopC at h
  cases en : src.now cs with
  | none => rw [en] at h; exact h.elim
  | some ys =>
    rw [en] at h
    exact ⟨⟨ys, rfl⟩, h⟩
theorem wipe_wipe {σ σ2 : L2.St} {vs ts : List Nat} (hl : σ2.length = (wipe σ vs).length) (ho : ∀ j, j ∉ ts → σ2[j]? = (wipe σ vs)[j]?) (hts : ∀ i ∈ ts, i ∈ vs) : wipe σ2 vs = wipe σ vs := by
  have hl2 : σ2.length = σ.length := by rw [hl, wipe_length]
  refine wipe_ext hl2 fun j hj => ?_
  rw [ho j fun z => hj (hts j z), wipe_out hj]
/-- the element made and put at the list's end -/
def elPut (G : Gl) (cl : CallF) (base : Nat) (el : E) (s : LSt) (acc : List Val) (cs : Cells) : R (List Val) := (evE G cl base el s cs).bind fun v cs => R.iff (Nat.blt acc.length 16777216) (.ok (acc ++ [v]) cs)
/-- one clause's reading -/
theorem lc_one {t : Tg} {it : EV.It} {o : Oe} {el : E} {own : List Nat} {wi : TI} {σ : L2.St} {H : Hp} {Q : VK} (hts : ∀ i ∈ t.slots, i ∈ own) (hw : ∀ σ H R, TIt X Bs W (evI G cl base it) σ H R → wi σ H R) (h : TN X Bs W (evE G cl base (.lc el own (.one t it o))) σ H Q) :
    tLc wi (gTg X Bs t) (oTst X.K Bs G cl base o) (T X.K Bs (rV X.K) WF (evE G cl base el)) own σ H Q := by
  obtain ⟨w0, s, cs0, hs0, hh0, run0⟩ := h
  have run0 : Run X.K Bs (rN X.K) W σ w0 Q ((noX ((evI G cl base it s cs0).bind fun src cs => loopC src (fun v cs => setT cs t v (wipeS s own)) (fun s acc cs => oRun G cl base o s acc cs fun cs => elPut G cl base el s acc cs) src.xs.length 0 [] cs)).bind fun vs cs => .ok (.lst vs) cs) := by
    refine Eq.mp (congrArg _ ?_) run0
    cases o <;> rfl
  have q0 := run_quiet run0
  obtain ⟨src, cs1, ei, q1⟩ := quiet_bind q0
  refine hw _ _ _ ⟨w0, s, cs0, hs0, hh0, ?_⟩
  rw [ei]
  intro w1 J H1 l1 hh1 hJ D hD
  have hDA : w1.A D = none := hh1.none_A hD
  refine ⟨fun i m H => m + i = src.xs.length ∧ ∃ w acc ys cs, w1.le w ∧ w.A D = some (.lst ys) ∧ RepL X.K w acc ys ∧ SRel X.K w (wipeS s own) (wipe σ own) ∧ HRel X.K w Bs cs H ∧
    Quiet (fun vs cs => Run X.K Bs (rN X.K) W σ w0 Q (.ok (.lst vs) cs)) (loopC src (fun v cs => setT cs t v (wipeS s own)) (fun s acc cs => oRun G cl base o s acc cs fun cs => elPut G cl base el s acc cs) m i acc cs),
    ⟨_, rfl, w1.withA D (some (.lst [])), [], [], cs1, le_withA .rfl hDA, withA_at, .nil, ((hs0.mono l1).wipe own).wA, hh1.addA hD rfl, q1⟩, ?_⟩
  rintro i m H ⟨hm, w, acc, ys, cs, l, hA, hr, hs, hh, q⟩
  cases m with
  | zero =>
    refine .inl ?_
    obtain ⟨⟨zs, en⟩, run⟩ := loopC_end q
    have hst := hJ.stop w cs H zs l.r hh en
    rw [← hm, Nat.zero_add] at hst
    obtain ⟨e1, e2, e3⟩ := hh.ac D _ hA
    refine ⟨hst, run (w.withA D none) _ H (l1.trans (le_withA l hDA)) hh.unA ⟨D, ys, rfl, e1, e2, withA_at, fun a ha y => ?_, hr.wA⟩⟩
    have ha : a < w.n := ha
    have hal : a < cs.length := by rw [← hh.n]; exact ha
    have := (hh.cell a _ (List.getElem?_eq_getElem hal)).2.2
    have y : w.i a = D := y
    rw [y, hA] at this
    cases this
  | succ m =>
    refine .inr ?_
    obtain ⟨v, s', ea, es, q2⟩ := loopC_turn q
    obtain ⟨hgo, hy⟩ := hJ.go i w cs H v l.r hh ea
    refine ⟨hgo, fun H' => m + (i + 1) = src.xs.length ∧ ∃ w acc ys cs, w1.le w ∧ w.A D = some (.lst ys) ∧ RepL X.K w acc ys ∧ SRel X.K w (wipeS s own) (wipe σ own) ∧ HRel X.K w Bs cs H' ∧
      Quiet (fun vs cs => Run X.K Bs (rN X.K) W σ w0 Q (.ok (.lst vs) cs)) (loopC src (fun v cs => setT cs t v (wipeS s own)) (fun s acc cs => oRun G cl base o s acc cs fun cs => elPut G cl base el s acc cs) m (i + 1) acc cs),
      fun H' q => ⟨m, Nat.lt_succ_self _, q⟩, fun x H' y => ?_⟩
    obtain ⟨w2, l2, hh2, r2⟩ := hy x H' y
    refine ⟨w2, wipeS s own, cs, v, s', hs.mono l2, hh2, r2, es, fun σ3 w3 H3 l3 hs3 hh3 hl3 ho3 => ⟨wipe_wipe hl3 ho3 hts, ?_⟩⟩
    refine oTst_of hs3 hh3 q2 fun w4 cs4 H4 l4 hh4 => ⟨fun q4 => ?_, fun q4 => ?_⟩
    · obtain ⟨u, cs5, eu, q5⟩ := quiet_bind q4
      simp only [if_true]
      refine ⟨w4, s', cs4, hs3.mono l4, hh4, ?_⟩
      rw [eu]
      intro w5 y5 H5 l5 hh5 r5
      have hA5 : w5.A D = some (.lst ys) := l5.A _ _ (l4.A _ _ (l3.A _ _ (l2.A _ _ hA)))
      obtain ⟨e1, e2, e3⟩ := hh5.ac D _ hA5
      have lw : w.le w5 := l2.trans (l3.trans (l4.trans l5))
      cases hb : Nat.blt acc.length 16777216 with
      | false => rw [hb] at q5; exact q5.elim
      | true =>
        rw [hb] at q5
        have hlt : acc.length < 16777216 := Nat.le_of_ble_eq_true hb
        refine ⟨ys, e1, by rw [← hr.length, sizeLine_eq]; exact hlt, by omega, w5.withA D (some (.lst (ys ++ [y5]))), acc ++ [u], ys ++ [y5], cs5, le_withA (l.trans lw) hDA, withA_at, ((hr.mono lw).append (.cons r5 .nil)).wA, (hs.mono lw).wA, hh5.setA hA5 rfl, q5⟩
    · show if (false = true) then _ else _
      rw [if_neg Bool.false_ne_true]
      have lw : w.le w4 := l2.trans (l3.trans l4)
      exact ⟨by omega, w4, acc, ys, cs4, l.trans lw, lw.A _ _ hA, hr.mono lw, hs.mono lw, hh4, q4⟩
end
end EV
/-! SdT: list comprehensions as expressions and statements. -/
namespace EV
open PySem PySem.Spec PyProof.Rows L2

section
variable {K : Fg} {Bs : BX} {W : WX} {σ : L2.St} {H : Hp} {Q : VK}
theorem T.cel {f : LSt → Cells → R Val} (h : T K Bs (rV K) W (fun s cs => (f s cs).bind fun v cs => mkC v cs) σ H Q) : T K Bs (rN K) W f σ H Q :=
  T.bind (g := fun _ v cs => mkC v cs) h fun w' s a x cs H1 hs hh r run => by
    cases a with
    | lst xs =>
      obtain ⟨p, ys, rfl, hp, hF, hA, hi, r⟩ := r
      refine Run.done' run (w' := w'.push p) Wd.push_le (hh.push hF hA hi (ob := .lst xs) ⟨ys, hp, r⟩) ?_
      have := RepV.ref (K := K) (w := w'.push p) (a := w'.n) (Nat.lt_succ_self _)
      rw [Wd.push_i] at this
      rw [← hh.n]
      exact this
    | dct xs =>
      obtain ⟨p, ys, rfl, hp, hF, hA, hi, r⟩ := r
      refine Run.done' run (w' := w'.push p) Wd.push_le (hh.push hF hA hi (ob := .dct xs) ⟨ys, hp, r⟩) ?_
      have := RepV.ref (K := K) (w := w'.push p) (a := w'.n) (Nat.lt_succ_self _)
      rw [Wd.push_i] at this
      rw [← hh.n]
      exact this
    | _ => exact run.elim
theorem T.fzl {f : LSt → Cells → R Val} (hf : ∀ s cs v cs', f s cs = .ok v cs' → ∃ xs, v = .lst xs) (h : T K Bs (rV K) W f σ H Q) : T K Bs (rN K) W f σ H Q := by
  obtain ⟨w, s, cs, hs, hh, hr⟩ := h
  refine ⟨w, s, cs, hs, hh, ?_⟩
  cases ef : f s cs with
  | bad => rw [ef] at hr; exact hr
  | exc x cs1 => rw [ef] at hr; exact hr
  | ok a cs1 =>
    rw [ef] at hr
    intro w' x H' l hh' rp
    obtain ⟨xs, rfl⟩ := hf _ _ _ _ ef
    obtain ⟨p, ys, rfl, hp, hF, hA, hi, r⟩ := rp
    have hl := Wd.fz_le (o := .lst ys) hF
    exact hr (w'.fz p (.lst ys)) _ H' (l.trans hl) (hh'.fzSame hp hF hA hi fun _ z => nomatch z) (.lst fz_at (r.mono hl))
end
section
variable {X : Cx} {Bs : BX} {W : WX} {G : Gl} {cl : CallF} {base : Nat} {pos : Pos}
theorem bindL {r : R (List Val)} {v : Val} {cs' : Cells} (h : (r.bind fun vs cs => R.ok (Val.lst vs) cs) = .ok v cs') : ∃ xs, v = .lst xs := by
  cases r with
  | ok vs cs =>
    cases h
    exact ⟨vs, rfl⟩
  | exc x cs => cases h
  | bad => cases h
/-- the context of a comprehension's block -/
abbrev Blk (X : Cx) (scope : Scope) : Shared → Hp → Addr → List (Str × Addr) → List Addr → Cx := fun s H C clo fp => X.blk s H scope (compEnvC scope clo C X.env) fp
theorem sd_lc {elt tg iter : Expr} {ifs : List Expr} {scope : Scope} {own : List (Str × Nat)} {t : Tg} {it : EV.It} {o : Oe} {el : E} (hc : X.calm = true) (hN : X.N.Nodup) (hts : ∀ i ∈ t.slots, i ∈ own.map (·.2)) (hi : PI X tg iter (TIt X Bs W (evI G cl base it))) (ok : BlkOk X.N X.env.scope scope own)
    (hg : ∀ s H C clo fp, PG (Blk X scope s H C clo fp) tg (gTg X Bs t)) (ht : ∀ s H C clo fp, OcOk (Blk X scope s H C clo fp) Bs G cl base ifs o) (he : ∀ s H C clo fp, PE (Blk X scope s H C clo fp) elt (T X.K Bs (rV X.K) WF (evE G cl base el)))
    (hs : ∀ x, foldedSetIterable iter X.env x = pure x) : PE X (.ListComp elt [⟨tg, iter, ifs, 0⟩] scope pos) (TN X Bs W (evE G cl base (.lc el (own.map (·.2)) (.one t it o)))) :=
  PE.imp (pe_lc (tt := oTst X.K Bs G cl base o) hc hN hi ok hg (fun s H C clo fp => (ht s H C clo fp).pts) he hs) fun σ H Q h => lc_one hts (fun _ _ _ h => h) h
/-- name = [..], the name a local -/
theorem sd_setLc {f : Fr} {i : Nat} {y : Str} {py spos : Pos} {elt tg iter : Expr} {ifs : List Expr} {scope : Scope} {own : List (Str × Nat)} {t : Tg} {it : EV.It} {o : Oe} {el : E} (cell : Bool) (hc : X.calm = true) (hN : X.N.Nodup) (hy : X.N[i]? = some y) (hyl : X.env.scope.names.lookup y = some .local)
    (hsw : swapsWith (.ListComp elt [⟨tg, iter, ifs, 0⟩] scope pos) (some (.Name y py)) spos.line X.env = pure true) (hts : ∀ i ∈ t.slots, i ∈ own.map (·.2)) (hi : PI X tg iter (TIt X f.Bs W (evI G cl f.base it))) (ok : BlkOk X.N X.env.scope scope own)
    (hg : ∀ s H C clo fp, PG (Blk X scope s H C clo fp) tg (gTg X f.Bs t)) (ht : ∀ s H C clo fp, OcOk (Blk X scope s H C clo fp) f.Bs G cl f.base ifs o) (he : ∀ s H C clo fp, PE (Blk X scope s H C clo fp) elt (T X.K f.Bs (rV X.K) WF (evE G cl f.base el)))
    (hs : ∀ x, foldedSetIterable iter X.env x = pure x) : PS X (.Assign [.Name y py] (.ListComp elt [⟨tg, iter, ifs, 0⟩] scope pos) spos) (TM1 X f W G cl (.asg (.nm i) (if cell = true then .cell (.lc el (own.map (·.2)) (.one t it o)) else .lc el (own.map (·.2)) (.one t it o)))) := by
  refine PS.imp (ps_setLc (tt := oTst X.K f.Bs G cl f.base o) hc hN hy hyl hsw hi ok hg (fun s H C clo fp => (ht s H C clo fp).pts) he hs) fun D σ H h => ?_
  refine lc_one hts (fun _ _ _ h => h) ?_
  have go : ∀ e : E, TM1 X f W G cl (.asg (.nm i) e) D σ H → T X.K f.Bs (rV X.K) W (evE G cl f.base e) σ H (fun x H1 => gName i x σ H1 D.nx) := fun e h =>
    TSm.ofR (k := fun s v cs => SR.ofO (setT cs (.nm i) v s) fun s => .nx s cs) h fun w s a x cs H' hs hh r run => run w _ H' .rfl (hs.set i r) hh
  cases cell with
  | true => exact T.cel (go _ h)
  | false => exact T.fzl (fun s cs v cs' e => bindL e) (go _ h)

/-! ### two clauses -/
theorem lc_two {t t1 : Tg} {it it1 : EV.It} {o o1 : Oe} {el : E} {own : List Nat} {σ : L2.St} {H : Hp} {Q : VK} (hts : ∀ i ∈ t.slots, i ∈ own) (h : TN X Bs W (evE G cl base (.lc el own (.more t it o (.one t1 it1 o1)))) σ H Q) :
    tLc2 (TIt X Bs W (evI G cl base it)) (gTg X Bs t) (oTst X.K Bs G cl base o) (T X.K Bs (rI X Bs) WF (evI G cl base it1)) (gTg X Bs t1) (oTst X.K Bs G cl base o1) (T X.K Bs (rV X.K) WF (evE G cl base el)) own t1.slots σ H Q := by
  obtain ⟨w0, s, cs0, hs0, hh0, run0⟩ := h
  let inn : LSt → List Val → Cells → R (List Val) := fun s acc cs => (evI G cl base it1 s cs).bind fun src cs => loopC src (fun v cs => setT cs t1 v (wipeS s t1.slots)) (fun s acc cs => oRun G cl base o1 s acc cs fun cs => elPut G cl base el s acc cs) src.xs.length 0 acc cs
  have hinn : ∀ s acc cs, evC G cl base (.one t1 it1 o1) (fun s acc cs => elPut G cl base el s acc cs) s (wipeS s t1.slots) acc cs = inn s acc cs := fun s acc cs => by
    cases o1 <;> rfl
  have run0 : Run X.K Bs (rN X.K) W σ w0 Q ((noX ((evI G cl base it s cs0).bind fun src cs => loopC src (fun v cs => setT cs t v (wipeS s own)) (fun s acc cs => oRun G cl base o s acc cs fun cs => inn s acc cs) src.xs.length 0 [] cs)).bind fun vs cs => .ok (.lst vs) cs) := by
    refine Eq.mp (congrArg _ ?_) run0
    cases o <;> cases o1 <;> rfl
  have q0 := run_quiet run0
  obtain ⟨src, cs1, ei, q1⟩ := quiet_bind q0
  refine ⟨w0, s, cs0, hs0, hh0, ?_⟩
  rw [ei]
  intro w1 J H1 l1 hh1 hJ D hD
  have hDA : w1.A D = none := hh1.none_A hD
  -- what holds at an outer turn
  let Inv1 : Nat → Nat → Hp → Prop := fun i m H => m + i = src.xs.length ∧ ∃ w acc ys cs, w1.le w ∧ w.A D = some (.lst ys) ∧ RepL X.K w acc ys ∧ SRel X.K w (wipeS s own) (wipe σ own) ∧ HRel X.K w Bs cs H ∧
    Quiet (fun vs cs => Run X.K Bs (rN X.K) W σ w0 Q (.ok (.lst vs) cs)) (loopC src (fun v cs => setT cs t v (wipeS s own)) (fun s acc cs => oRun G cl base o s acc cs fun cs => inn s acc cs) m i acc cs)
  refine ⟨Inv1, ⟨_, rfl, w1.withA D (some (.lst [])), [], [], cs1, le_withA .rfl hDA, withA_at, .nil, ((hs0.mono l1).wipe own).wA, hh1.addA hD rfl, q1⟩, ?_⟩
  rintro i m H ⟨hm, w, acc, ys, cs, l, hA, hr, hs, hh, q⟩
  cases m with
  | zero =>
    refine .inl ?_
    obtain ⟨⟨zs, en⟩, run⟩ := loopC_end q
    have hst := hJ.stop w cs H zs l.r hh en
    rw [← hm, Nat.zero_add] at hst
    obtain ⟨e1, e2, e3⟩ := hh.ac D _ hA
    refine ⟨hst, run (w.withA D none) _ H (l1.trans (le_withA l hDA)) hh.unA ⟨D, ys, rfl, e1, e2, withA_at, fun a ha y => ?_, hr.wA⟩⟩
    have ha : a < w.n := ha
    have hal : a < cs.length := by rw [← hh.n]; exact ha
    have := (hh.cell a _ (List.getElem?_eq_getElem hal)).2.2
    have y : w.i a = D := y
    rw [y, hA] at this
    cases this
  | succ m =>
    refine .inr ?_
    obtain ⟨v, s', ea, es, q2⟩ := loopC_turn q
    obtain ⟨hgo, hy⟩ := hJ.go i w cs H v l.r hh ea
    refine ⟨hgo, fun H' => Inv1 (i + 1) m H', fun H' q => ⟨m, Nat.lt_succ_self _, q⟩, fun x H' y => ?_⟩
    obtain ⟨w2, l2, hh2, r2⟩ := hy x H' y
    refine ⟨w2, wipeS s own, cs, v, s', hs.mono l2, hh2, r2, es, fun σ3 w3 H3 l3 hs3 hh3 hl3 ho3 => ⟨wipe_wipe hl3 ho3 hts, ?_⟩⟩
    refine oTst_of hs3 hh3 q2 fun w4 cs4 H4 l4 hh4 => ⟨fun q4 => ?_, fun q4 => ?_⟩
    · obtain ⟨src1, cs5, e1, q5⟩ := quiet_bind q4
      simp only [if_true]
      refine ⟨w4, s', cs4, hs3.mono l4, hh4, ?_⟩
      rw [e1]
      intro w5 J1 H5 l5 hh5 hJ1
      have lw5 : w.le w5 := l2.trans (l3.trans (l4.trans l5))
      have hs5 : SRel X.K w5 s' σ3 := (hs3.mono l4).mono l5
      -- what holds at an inner turn
      let Inv2 : Nat → Nat → Hp → Prop := fun j n H => n + j = src1.xs.length ∧ ∃ w acc ys cs, w1.le w ∧ w5.ler w ∧ w.A D = some (.lst ys) ∧ RepL X.K w acc ys ∧ SRel X.K w (wipeS s own) (wipe σ own) ∧ SRel X.K w (wipeS s' t1.slots) (wipe σ3 t1.slots) ∧ HRel X.K w Bs cs H ∧
        Quiet (fun acc cs => Quiet (fun vs cs => Run X.K Bs (rN X.K) W σ w0 Q (.ok (.lst vs) cs)) (loopC src (fun v cs => setT cs t v (wipeS s own)) (fun s acc cs => oRun G cl base o s acc cs fun cs => inn s acc cs) m (i + 1) acc cs))
          (loopC src1 (fun v cs => setT cs t1 v (wipeS s' t1.slots)) (fun s acc cs => oRun G cl base o1 s acc cs fun cs => elPut G cl base el s acc cs) n j acc cs)
      refine ⟨Inv2, ⟨_, rfl, w5, acc, ys, cs5, l.trans lw5, Wd.le.rfl.r, lw5.A _ _ hA, hr.mono lw5, hs.mono lw5, hs5.wipe _, hh5, q5⟩, ?_⟩
      rintro j n H6 ⟨hn, w6, acc6, ys6, cs6, l6, m6, hA6, hr6, hs6, hs6', hh6, q6⟩
      cases n with
      | zero =>
        refine .inl ?_
        obtain ⟨⟨zs, en⟩, q7⟩ := loopC_end q6
        have hst := hJ1.stop w6 cs6 H6 zs m6 hh6 en
        rw [← hn, Nat.zero_add] at hst
        exact ⟨hst, by omega, w6, acc6, ys6, cs6, l6, hA6, hr6, hs6, hh6, q7⟩
      | succ n =>
        refine .inr ?_
        obtain ⟨v6, s6', ea6, es6, q7⟩ := loopC_turn q6
        obtain ⟨hgo6, hy6⟩ := hJ1.go j w6 cs6 H6 v6 m6 hh6 ea6
        refine ⟨hgo6, fun H' => Inv2 (j + 1) n H', fun H' q => ⟨n, Nat.lt_succ_self _, q⟩, fun x H' y => ?_⟩
        obtain ⟨w7, l7, hh7, r7⟩ := hy6 x H' y
        refine ⟨w7, wipeS s' t1.slots, cs6, v6, s6', hs6'.mono l7, hh7, r7, es6, fun σ8 w8 H8 l8 hs8 hh8 hl8 ho8 => ⟨wipe_wipe hl8 ho8 fun i hi => hi, ?_⟩⟩
        refine oTst_of hs8 hh8 q7 fun w9 cs9 H9 l9 hh9 => ⟨fun q9 => ?_, fun q9 => ?_⟩
        · obtain ⟨u, cs10, eu, q10⟩ := quiet_bind q9
          simp only [if_true]
          refine ⟨w9, s6', cs9, hs8.mono l9, hh9, ?_⟩
          rw [eu]
          intro w10 y10 H10 l10 hh10 r10
          have lw : w6.le w10 := l7.trans (l8.trans (l9.trans l10))
          have hA10 : w10.A D = some (.lst ys6) := lw.A _ _ hA6
          obtain ⟨e1, e2, e3⟩ := hh10.ac D _ hA10
          cases hb : Nat.blt acc6.length 16777216 with
          | false => rw [hb] at q10; exact q10.elim
          | true =>
            rw [hb] at q10
            have hlt : acc6.length < 16777216 := Nat.le_of_ble_eq_true hb
            have m10 : w5.ler (w10.withA D (some (.lst (ys6 ++ [y10])))) := ⟨(m6.trans lw.r).n, (m6.trans lw.r).i, (m6.trans lw.r).F, (m6.trans lw.r).x⟩
            refine ⟨ys6, e1, by rw [← hr6.length, sizeLine_eq]; exact hlt, by omega, w10.withA D (some (.lst (ys6 ++ [y10]))), acc6 ++ [u], ys6 ++ [y10], cs10, le_withA (l6.trans lw) hDA, m10, withA_at, ((hr6.mono lw).append (.cons r10 .nil)).wA, (hs6.mono lw).wA, (hs6'.mono lw).wA, hh10.setA hA10 rfl, q10⟩
        · show if (false = true) then _ else _
          rw [if_neg Bool.false_ne_true]
          have lw : w6.le w9 := l7.trans (l8.trans l9)
          exact ⟨by omega, w9, acc6, ys6, cs9, l6.trans lw, m6.trans lw.r, lw.A _ _ hA6, hr6.mono lw, hs6.mono lw, hs6'.mono lw, hh9, q9⟩
    · show if (false = true) then _ else _
      rw [if_neg Bool.false_ne_true]
      have lw : w.le w4 := l2.trans (l3.trans l4)
      exact ⟨by omega, w4, acc, ys, cs4, l.trans lw, lw.A _ _ hA, hr.mono lw, hs.mono lw, hh4, q4⟩
end
end EV
/-! SdU: 'in' an own instance. -/
namespace EV
open PySem PySem.Spec PyProof.Rows L2

section
variable {X : Cx} {W : WX} {f : Fr} {G : Gl} {cl : CallF} {fdm : Str → FuncData} {k : Nat} {pos : Pos} {pins : List (Addr × Obj)} {σ : L2.St} {H : Hp} {s : Shared}
theorem contains_own {p C dx fA : Addr} {gs : List (Str × V)} {v' : Value} {Q : Bool → Shared → Prop} (I : Inv X pins σ H s) (hp : H p = some (.ins C dx gs)) (m : Meth X.K C "__contains__" fA)
    (h : wpAny (model X.prog X.w) X.A (call (.ref fA) [.ref p, v']) (EP X pins σ fun y H1 => ∃ b, y = .bl b ∧ ∀ s1, Inv X pins σ H1 s1 → Q b s1) X.xe s) : wpAny (model X.prog X.w) X.A (contains (.ref p) v') Q X.xe s := by
  obtain ⟨mA, O, _⟩ := ins_get I.hok hp
  obtain ⟨od, IA, _⟩ := O.look
  unfold contains
  refine wpAny_holding (wpAny_bind (wpAny_bind (IA.type.here ((PySem.W.looks_findIn I.kIn m.at_).here ?_))))
  rw [if_neg (by simp)]
  refine wpAny_bind (PySem.W.unlessNone_K I.kIn IA m.at_ m.fn (thn h fun r s1 ⟨y, H1, I1, r1, b, eb, q⟩ => ?_))
  subst eb
  obtain rfl : r = Value.bool b := r1
  exact wpAny_pure (q s1 I1)
/-- what an own instance says of 'in' -/
theorem own_in (g : Good G cl fdm X W f k) (hD : DefsOk X.K G fdm) (hC : ClssOk X.K G) (I : Inv X pins σ H s) {w : Wd} {cs : Cells} {v u : Val} {x y : V} {v' u' : Value} {C : Str} {fs : List (Str × Val)} {Q : Bool → Shared → Prop} {P : Val → Cells → Prop} (hh : HRel X.K w f.Bs cs H) (rv : RepV X.K w v x) (ru : RepV X.K w u y) (r1 : RelV x v') (r2 : RelV y u') (hi : insOf cs u = some (C, fs))
    (hq : Quiet P (spcV G cl f.base u "__contains__" [v] cs)) (hP : ∀ r cs', P r cs' → ∃ b, r = .bl b ∧ ∀ w' H' s', w.le w' → HRel X.K w' f.Bs cs' H' → Inv X pins σ H' s' → Q b s') : wpAny (model X.prog X.w) X.A (contains u' v') Q X.xe s := by
  obtain ⟨p, dx, gs, rfl, hp, hdx, hr⟩ := hh.ins_ ru hi
  obtain rfl : u' = Value.ref p := r2
  unfold spcV at hq
  rw [hi] at hq
  simp only at hq
  cases ec : G.clss.lookup C with
  | none => rw [ec] at hq; exact hq.elim
  | some c =>
    rw [ec] at hq
    simp only at hq
    cases em : c.meths.lookup ("__contains__" : Str) with
    | none => rw [em] at hq; exact hq.elim
    | some nm =>
      rw [em] at hq
      simp only at hq
      obtain ⟨d, hd, eat, hme⟩ := (hC C c ec).meth _ nm em
      refine contains_own I hp hme ?_
      refine run_def g hD I (ks := []) (kvs := []) (zs := []) (ws := []) hd hh (.cons ru (.cons rv .nil)) (.cons rfl (.cons r1 .nil)) .nil .nil ?_
      cases er : callD G cl f.base nm [u, v] [] [] cs with
      | ok r cs' =>
        rw [er] at hq
        intro w' z H' l hh' rz
        obtain ⟨b, rfl, q⟩ := hP r cs' hq
        cases rz
        exact ⟨b, rfl, fun s1 I1 => q w' H' s1 l hh' I1⟩
      | exc x cs' => rw [er] at hq; exact hq.elim
      | bad => rw [er] at hq; exact hq.elim
/-- 'in' with its sign -/
def inB (op : CmpOp) (b : Bool) : Bool := match op with
  | .In => b
  | _ => !b
def rIo (X : Cx) (f : Fr) (G : Gl) (cl : CallF) (op : CmpOp) : R2 := fun x y H Q => ∃ w cs v u, HRel X.K w f.Bs cs H ∧ RepV X.K w v x ∧ RepV X.K w u y ∧ ((∃ d, opCmp cs op v u = some d ∧ Q (.bl d) H) ∨
  ∃ C fs, insOf cs u = some (C, fs) ∧ Quiet (fun r cs' => ∃ b, r = .bl b ∧ ∀ w' H', w.le w' → HRel X.K w' f.Bs cs' H' → Q (.bl (inB op b)) H') (spcV G cl f.base u "__contains__" [v] cs))
theorem or_io {op : CmpOp} (hop : op = .In ∨ op = .NotIn) (g : Good G cl fdm X W f k) (hD : DefsOk X.K G fdm) (hC : ClssOk X.K G) (hu : X.A.units + 65 < cLine) : OpR X (compareOp op) (rIo X f G cl op) := by
  intro pins s σ H x y v' u' Q I r1 r2 ⟨w, cs, v, u, hh, rv, ru, h⟩
  rcases h with ⟨d, e, q⟩ | ⟨C, fs, hi, hq⟩
  · exact opr_cmp hu I hh rv ru e q r1 r2
  · have go : ∀ Q' : Bool → Shared → Prop, (∀ (b : Bool) (s' : Shared) (H' : Hp), Inv X pins σ H' s' → Q (.bl (inB op b)) H' → Q' b s') → wpAny (model X.prog X.w) X.A (contains u' v') Q' X.xe s := fun Q' hQ' =>
      own_in g hD hC I hh rv ru r1 r2 hi hq fun r cs' ⟨b, eb, q⟩ => ⟨b, eb, fun w' H' s' l hh' I' => hQ' b s' H' I' (q w' H' l hh')⟩
    rcases hop with rfl | rfl
    · refine wpAny_bind (go _ fun b s' H' I' q => ?_)
      exact wpAny_pure ⟨.bl b, H', I', rfl, q⟩
    · refine wpAny_bind (go _ fun b s' H' I' q => ?_)
      exact wpAny_pure ⟨.bl (!b), H', I', rfl, q⟩
theorem cmp_io {op : CmpOp} (hop : op = .In ∨ op = .NotIn) {w : Wd} {cs : Cells} {v u : Val} {α : Type} {Rp : RP Val α} {σ : L2.St} {Q : α → Hp → Prop} {W : WX} (run : Run X.K f.Bs Rp W σ w Q (cmpV G cl f.base op v u cs)) :
    (∃ d, opCmp cs op v u = some d ∧ Run X.K f.Bs Rp W σ w Q (.ok (.bl d) cs)) ∨ ∃ C fs, insOf cs u = some (C, fs) ∧ Quiet (fun r cs' => ∃ b, r = .bl b ∧ Run X.K f.Bs Rp W σ w Q (.ok (.bl (inB op b)) cs')) (spcV G cl f.base u "__contains__" [v] cs) := by
  cases hi : insOf cs u with
  | none =>
    left
    rcases hop with rfl | rfl <;> (
      unfold cmpV at run
      simp only [hi] at run
      cases eo : opCmp cs _ v u with
      | none => rw [eo] at run; exact run.elim
      | some d =>
        rw [eo] at run
        exact ⟨d, rfl, run⟩)
  | some q =>
    right
    refine ⟨q.1, q.2, rfl, ?_⟩
    have nox : ∀ x cs', spcV G cl f.base u "__contains__" [v] cs ≠ .exc x cs' := fun x cs' z => by
      unfold spcV at z
      rw [hi] at z
      simp only at z
      split at z
      · split at z
        · unfold noX at z
          split at z <;> cases z
        · cases z
      · cases z
    rcases hop with rfl | rfl <;> (
      unfold cmpV at run
      simp only [hi] at run
      cases er : spcV G cl f.base u "__contains__" [v] cs with
      | ok r cs' =>
        rw [er] at run
        cases r with
        | bl b => exact ⟨b, rfl, run⟩
        | _ => exact run.elim
      | exc x cs' => exact (nox x cs' er).elim
      | bad => rw [er] at run; exact run.elim)
theorem cmp_form {op : CmpOp} (hop : op = .In ∨ op = .NotIn) {base : Nat} {cs : Cells} {v u : Val} : cmpV G cl base op v u cs = .bad ∨ (∃ d, opCmp cs op v u = some d ∧ cmpV G cl base op v u cs = .ok (.bl d) cs) ∨
    ∃ C fs b cs', insOf cs u = some (C, fs) ∧ spcV G cl base u "__contains__" [v] cs = .ok (.bl b) cs' ∧ cmpV G cl base op v u cs = .ok (.bl (inB op b)) cs' := by
  cases hi : insOf cs u with
  | none =>
    rcases hop with rfl | rfl <;> (
      unfold cmpV
      simp only [hi]
      cases eo : opCmp cs _ v u with
      | none => exact .inl rfl
      | some d => exact .inr (.inl ⟨d, rfl, rfl⟩))
  | some q =>
    have nox : ∀ x cs', spcV G cl base u "__contains__" [v] cs ≠ .exc x cs' := fun x cs' z => by
      unfold spcV at z
      rw [hi] at z
      simp only at z
      split at z
      · split at z
        · unfold noX at z
          split at z <;> cases z
        · cases z
      · cases z
    rcases hop with rfl | rfl <;> (
      unfold cmpV
      simp only [hi]
      cases er : spcV G cl base u "__contains__" [v] cs with
      | ok r cs' =>
        cases r with
        | bl b => exact .inr (.inr ⟨q.1, q.2, b, cs', rfl, rfl, rfl⟩)
        | _ => exact .inl rfl
      | exc x cs' => exact (nox x cs' er).elim
      | bad => exact .inl rfl)
theorem Quiet.imp {α : Type} {P P' : α → Cells → Prop} {r : R α} (h : Quiet P r) (q : ∀ a cs, P a cs → P' a cs) : Quiet P' r := by
  cases r with
  | ok a cs => exact q a cs h
  | exc x cs => exact h.elim
  | bad => exact h.elim
theorem sd_in {op : CmpOp} {a b : Expr} {ca cb : E} (hop : op = .In ∨ op = .NotIn) (g : Good G cl fdm X W f k) (hD : DefsOk X.K G fdm) (hC : ClssOk X.K G) (hu : X.A.units + 65 < cLine) (ha : PE X a (TV X f.Bs W (evE G cl f.base ca))) (hb : PE X b (TV X f.Bs W (evE G cl f.base cb))) (hm : behindInMarks op b = false) :
    PE X (.Compare a [op] [b] pos) (TV X f.Bs W (evE G cl f.base (.cmp op ca cb))) ∧ PT X (.Compare a [op] [b] pos) (TB X f.Bs W (evE G cl f.base (.cmp op ca cb))) := by
  constructor
  · refine PE.imp (pe_cmpR (or_io hop g hD hC hu) ha hb hm) fun σ H Q h => T.bind (g := fun s v cs => (evE G cl f.base cb s cs).bind fun u cs => cmpV G cl f.base op v u cs) h fun w s v x cs H1 hs hh r run =>
      T.next hs hh run fun w1 u y cs1 H2 l hh2 r2 run2 => ?_
    refine ⟨w1, cs1, v, u, hh2, r.mono l, r2, ?_⟩
    rcases cmp_io hop run2 with ⟨d, e, q⟩ | ⟨C, fs, hi, q⟩
    · exact .inl ⟨d, e, Run.done (a := Val.bl d) q hh2 (.bl _)⟩
    · exact .inr ⟨C, fs, hi, q.imp fun z cs' ⟨t, et, q⟩ => ⟨t, et, fun w' H' l' hh' => q w' _ H' l' hh' (.bl _)⟩⟩
  · refine PT.imp (pt_cmpR (or_io hop g hD hC hu) ha hb hm) fun σ H Q h => ?_
    obtain ⟨w, s, cs, hs, hh, hr⟩ := h
    refine T.next (Rp1 := rV X.K) (f := evE G cl f.base ca) (g := fun v cs => (evE G cl f.base cb s cs).bind fun u cs => (cmpV G cl f.base op v u cs).bind fun v cs => R.of (truthy cs v) cs) hs hh (Eq.mp (congrArg _ ?_) hr) fun w1 v x cs1 H1 l hh1 rv run => ?_
    · show ((evE G cl f.base ca s cs).bind _).bind _ = (evE G cl f.base ca s cs).bind _
      cases evE G cl f.base ca s cs with
      | ok v cs1 =>
        show ((evE G cl f.base cb s cs1).bind _).bind _ = (evE G cl f.base cb s cs1).bind _
        cases evE G cl f.base cb s cs1 <;> rfl
      | exc x cs1 => rfl
      | bad => rfl
    · refine T.next (hs.mono l) hh1 run fun w2 u y cs2 H2 l2 hh2 ru run2 => ?_
      refine ⟨w2, cs2, v, u, hh2, rv.mono l2, ru, ?_⟩
      rcases cmp_form (G := G) (cl := cl) (base := f.base) (v := v) (u := u) (cs := cs2) hop with e | ⟨d, eo, e⟩ | ⟨C, fs, t, cs', hi, es, e⟩
      · rw [e] at run2
        exact run2.elim
      · rw [e] at run2
        exact .inl ⟨d, eo, d, rfl, Run.done (a := d) run2 hh2 rfl⟩
      · rw [e] at run2
        refine .inr ⟨C, fs, hi, ?_⟩
        rw [es]
        exact ⟨t, rfl, fun w' H' l' hh' => ⟨_, rfl, run2 w' _ H' l' hh' rfl⟩⟩
/-- {} -/
theorem sd_dct0 {Bs : BX} {base : Nat} : PE X (.Dict [] [] pos) (TN X Bs W (evE G cl base (.dct .nil))) := PE.imp pe_dnewK fun σ H Q ⟨w, s, cs, hs, hh, hr⟩ p hp => by
  obtain ⟨hh', r'⟩ := hh.newD hp .nil
  exact Run.done (a := Val.dct []) hr hh' r'
end
end EV
/-! SdW: enumerate and zip as sources. -/
namespace EV
open PySem PySem.Spec PyProof.Rows L2

section
variable {X : Cx} {Bs : BX} {W : WX} {G : Gl} {cl : CallF} {base : Nat} {p pos tpos : Pos} {elts : List Expr} {kk : Nat} {e e2 e3 : Expr} {c c2 c3 : E}
theorem Walks.rows {w : Wd} {xs : List Val} {rs : List (List V)} {read : Hp → List (List V) → Prop} (hr : ∀ w' cs H, w.ler w' → HRel X.K w' Bs cs H → read H rs) (hl : xs.length = rs.length)
    (hx : ∀ (i : Nat) (v : Val) (r : List V), xs[i]? = some v → rs[i]? = some r → ∃ us, v = Val.tup us ∧ RepL X.K w us r) : Walks X Bs w ⟨xs, none⟩ (ItT read) := by
  refine .pairs (fun i w' cs H l hh hi => ?_) (fun i w' cs H x H' v l hh e y => ?_) fun w' cs H l hh => ?_
  · exact ⟨rs, rs[i]'(by rw [← hl]; exact hi), hr w' cs H l hh, List.getElem?_eq_getElem _⟩
  · obtain ⟨T, r, ex, hn, eH, hb⟩ := y
    obtain ⟨us, ev, rl⟩ := hx i v r e (hb rs (hr w' cs H l hh))
    exact ⟨T, us, r, ev, ex, hn, eH, rl.monr l⟩
  · exact ⟨rs, hr w' cs H l hh, hl.symm⟩
/-- a list or a tuple that never changes -/
inductive FzS (K : Fg) (w : Wd) : Val → V → List Val → List V → Bool → Addr → Prop
  | tup {xs : List Val} {p : Addr} {ys : List V} : SqT K w.F p ys → RepL K w xs ys → FzS K w (.tup xs) (.ref p) xs ys true p
  | lst {xs : List Val} {p : Addr} {ys : List V} : w.F p = some (.lst ys) → RepL K w xs ys → FzS K w (.lst xs) (.ref p) xs ys false p
theorem FzS.x {K : Fg} {w : Wd} {v : Val} {x : V} {xs : List Val} {ys : List V} {t : Bool} {a : Addr} (h : FzS K w v x xs ys t a) : x = .ref a := by
  cases h <;> rfl
theorem FzS.r {K : Fg} {w : Wd} {v : Val} {x : V} {xs : List Val} {ys : List V} {t : Bool} {a : Addr} (h : FzS K w v x xs ys t a) : RepL K w xs ys := by
  cases h with
  | tup _ r => exact r
  | lst _ r => exact r
theorem FzS.sq {w w' : Wd} {cs : Cells} {H : Hp} {v : Val} {x : V} {xs : List Val} {ys : List V} {t : Bool} {a : Addr} (h : FzS X.K w v x xs ys t a) (l : w.ler w') (hh : HRel X.K w' Bs cs H) : SqB X.K H t a ys := by
  cases h with
  | tup q r => exact sqT_mono hh.fr (sqT_mono l.F q)
  | lst q r => exact SqL.of (hh.fr _ _ (l.F _ _ q))
def sqItems : Val → Option (List Val)
  | .lst xs => some xs
  | .tup xs => some xs
  | _ => none
theorem fzS_of {K : Fg} {w : Wd} {v : Val} {x : V} {xs : List Val} (r : RepV K w v x) (h : sqItems v = some xs) : ∃ ys t a, FzS K w v x xs ys t a := by
  cases r with
  | tup q r =>
    cases h
    exact ⟨_, _, _, .tup q r⟩
  | lst q r =>
    cases h
    exact ⟨_, _, _, .lst q r⟩
  | _ => cases h
theorem enuSrc_eq (v : Val) : enuSrc v = (sqItems v).map fun xs => ⟨enumV 0 xs, none⟩ := by cases v <;> rfl
theorem zip2Src_eq (v u : Val) : zip2Src v u = (sqItems v).bind fun xs => (sqItems u).map fun ys => ⟨zip2V xs ys, none⟩ := by
  cases v <;> cases u <;> rfl
theorem zip2Src_some {v u : Val} {s : Src} (h : zip2Src v u = some s) : ∃ xs ys, sqItems v = some xs ∧ sqItems u = some ys ∧ s = ⟨zip2V xs ys, none⟩ := by
  rw [zip2Src_eq] at h
  cases e1 : sqItems v with
  | none => rw [e1] at h; cases h
  | some xs =>
    cases e2 : sqItems u with
    | none => rw [e1, e2] at h; cases h
    | some ys =>
      rw [e1, e2] at h
      cases h
      exact ⟨xs, ys, rfl, rfl, rfl⟩
theorem zip3Src_some {v u z : Val} {s : Src} (h : zip3Src v u z = some s) : ∃ xs ys zs, sqItems v = some xs ∧ sqItems u = some ys ∧ sqItems z = some zs ∧ s = ⟨zip3V xs ys zs, none⟩ := by
  unfold zip3Src at h
  split at h
  · cases h
    exact ⟨_, _, _, rfl, rfl, rfl, rfl⟩
  · cases h
theorem zip3V_get : ∀ (xs ys zs : List Val) (i : Nat) (v : Val), (zip3V xs ys zs)[i]? = some v → ∃ x y z, xs[i]? = some x ∧ ys[i]? = some y ∧ zs[i]? = some z ∧ v = .tup [x, y, z]
  | [], _, _, _, _, h => by simp [zip3V] at h
  | _ :: _, [], _, _, _, h => by simp [zip3V] at h
  | _ :: _, _ :: _, [], _, _, h => by simp [zip3V] at h
  | x :: xs, y :: ys, z :: zs, 0, v, h => ⟨x, y, z, rfl, rfl, rfl, by cases h; rfl⟩
  | x :: xs, y :: ys, z :: zs, i + 1, v, h => zip3V_get xs ys zs i v (by unfold zip3V at h; rwa [List.getElem?_cons_succ] at h)
theorem zip3V_len : ∀ (xs ys zs : List Val), (zip3V xs ys zs).length = min (min xs.length ys.length) zs.length
  | [], _, _ => by simp [zip3V]
  | _ :: _, [], _ => by simp [zip3V]
  | _ :: _, _ :: _, [] => by simp [zip3V]
  | x :: xs, y :: ys, z :: zs => by
    unfold zip3V
    rw [List.length_cons, List.length_cons, List.length_cons, List.length_cons, zip3V_len xs ys zs]
    omega
theorem Walks.enB {w : Wd} {v : Val} {x : V} {xs : List Val} {ys : List V} {t : Bool} {a : Addr} (h : FzS X.K w v x xs ys t a) : Walks X Bs w ⟨enumV 0 xs, none⟩ (ItT (rdE X.K t a)) := by
  refine .rows (rs := enR 0 ys) (fun w' cs H l hh => ⟨ys, h.sq l hh, rfl⟩) (by rw [enumV_len, enR_len, h.r.length]) fun i v r e1 e2 => ?_
  rw [enumV_get, Nat.zero_add] at e1
  rw [enR_get, Nat.zero_add] at e2
  cases ex : xs[i]? with
  | none => rw [ex] at e1; cases e1
  | some u =>
    rw [ex] at e1
    obtain ⟨b, hb, rb⟩ := h.r.get ex
    rw [hb] at e2
    cases e1
    cases e2
    exact ⟨_, rfl, .cons (.int _) (.cons rb .nil)⟩
theorem zpR_at {xs ys : List V} {i : Nat} {r : List V} (h : (zpR xs ys)[i]? = some r) {a b : V} (ha : xs[i]? = some a) (hb : ys[i]? = some b) : r = [a, b] := by
  rw [zpR_get _ _ _ _ _ ha hb] at h
  cases h
  rfl
theorem Walks.zpB {w : Wd} {v v2 : Val} {x x2 : V} {xs xs2 : List Val} {ys ys2 : List V} {t t2 : Bool} {a a2 : Addr} (h : FzS X.K w v x xs ys t a) (h2 : FzS X.K w v2 x2 xs2 ys2 t2 a2) : Walks X Bs w ⟨zip2V xs xs2, none⟩ (ItT (rdZ X.K t a t2 a2)) := by
  refine .rows (rs := zpR ys ys2) (fun w' cs H l hh => ⟨ys, ys2, h.sq l hh, h2.sq l hh, rfl⟩) (by rw [zip2V_len, zpR_len, h.r.length, h2.r.length]) fun i v r e1 e2 => ?_
  obtain ⟨u1, u2, g1, g2, rfl⟩ := zip2V_get _ _ _ _ e1
  obtain ⟨b1, k1, r1⟩ := h.r.get g1
  obtain ⟨b2, k2, r2⟩ := h2.r.get g2
  rw [zpR_get _ _ _ _ _ k1 k2] at e2
  cases e2
  exact ⟨_, rfl, .cons r1 (.cons r2 .nil)⟩
theorem Walks.zp3 {w : Wd} {v v2 v3 : Val} {x x2 x3 : V} {xs xs2 xs3 : List Val} {ys ys2 ys3 : List V} {t t2 t3 : Bool} {a a2 a3 : Addr} (h : FzS X.K w v x xs ys t a) (h2 : FzS X.K w v2 x2 xs2 ys2 t2 a2) (h3 : FzS X.K w v3 x3 xs3 ys3 t3 a3) :
    Walks X Bs w ⟨zip3V xs xs2 xs3, none⟩ (ItT (rdZ3 X.K t a t2 a2 t3 a3)) := by
  refine .rows (rs := EV.zp3 ys ys2 ys3) (fun w' cs H l hh => ⟨ys, ys2, ys3, h.sq l hh, h2.sq l hh, h3.sq l hh, rfl⟩) (by rw [zip3V_len, zp3_len, h.r.length, h2.r.length, h3.r.length]) fun i v r e1 e2 => ?_
  obtain ⟨u1, u2, u3, g1, g2, g3, rfl⟩ := zip3V_get _ _ _ _ _ e1
  obtain ⟨b1, k1, r1⟩ := h.r.get g1
  obtain ⟨b2, k2, r2⟩ := h2.r.get g2
  obtain ⟨b3, k3, r3⟩ := h3.r.get g3
  rw [zp3_get _ _ _ _ _ _ _ k1 k2 k3] at e2
  cases e2
  exact ⟨_, rfl, .cons r1 (.cons r2 (.cons r3 .nil))⟩
theorem evEs_1 (s : LSt) (cs : Cells) : evEs G cl base (.cons c .nil) s cs = (evE G cl base c s cs).bind fun v cs => .ok [v] cs := by
  show (evE G cl base c s cs).bind _ = (evE G cl base c s cs).bind _
  cases evE G cl base c s cs <;> rfl
theorem evEs_2 (s : LSt) (cs : Cells) : evEs G cl base (.cons c (.cons c2 .nil)) s cs = (evE G cl base c s cs).bind fun v cs => (evE G cl base c2 s cs).bind fun u cs => .ok [v, u] cs := by
  show (evE G cl base c s cs).bind _ = (evE G cl base c s cs).bind _
  cases evE G cl base c s cs with
  | ok v cs1 =>
    show ((evEs G cl base (.cons c2 .nil) s cs1).bind _) = (evE G cl base c2 s cs1).bind _
    rw [evEs_1]
    cases evE G cl base c2 s cs1 <;> rfl
  | exc x cs1 => rfl
  | bad => rfl
theorem evEs_3 (s : LSt) (cs : Cells) : evEs G cl base (.cons c (.cons c2 (.cons c3 .nil))) s cs = (evE G cl base c s cs).bind fun v cs => (evE G cl base c2 s cs).bind fun u cs => (evE G cl base c3 s cs).bind fun z cs => .ok [v, u, z] cs := by
  show (evE G cl base c s cs).bind _ = (evE G cl base c s cs).bind _
  cases evE G cl base c s cs with
  | ok v cs1 =>
    show ((evEs G cl base (.cons c2 (.cons c3 .nil)) s cs1).bind _) = (evE G cl base c2 s cs1).bind _
    rw [evEs_2]
    cases evE G cl base c2 s cs1 with
    | ok u cs2 =>
      show ((evE G cl base c3 s cs2).bind _).bind _ = (evE G cl base c3 s cs2).bind _
      cases evE G cl base c3 s cs2 <;> rfl
    | exc x cs1 => rfl
    | bad => rfl
  | exc x cs1 => rfl
  | bad => rfl
theorem sd_enu (hg : L2.Gl X "enumerate") (hm : X.mg "enumerate" = none) (ha : PE X e (TV X Bs W (evE G cl base c))) (hs : starEach [e] X.env = [(false, eval e X.env)]) :
    PI X (.Tuple elts kk tpos) (.Call (.Name "enumerate" p) [e] [] pos) (TIt X Bs W (evI G cl base (.enu c))) := by
  refine PI.imp (pi_enB hg hm (sd_one ha hs) hs) fun σ H RR h => T.bind (g := fun _ vs cs => R.of (match vs with
    | [v] => enuSrc v
    | _ => none) cs) (T.as h fun s cs => ?_) fun w s vs xs cs H1 hs hh r run => ?_
  · rw [evEs_1]
    show ((evE G cl base c s cs).bind _).bind _ = (evE G cl base c s cs).bind _
    cases evE G cl base c s cs <;> rfl
  · obtain ⟨src, es, run⟩ := run.some_
    split at es
    · cases r with
      | cons r1 r2 =>
        cases r2
        rw [enuSrc_eq] at es
        cases ei : sqItems _ with
        | none => rw [ei] at es; cases es
        | some xs =>
          rw [ei] at es
          cases es
          obtain ⟨ys, t, a, f⟩ := fzS_of r1 ei
          rw [f.x]
          exact ⟨t, a, ys, rfl, f.sq Wd.le.rfl.r hh, run.done hh (.enB f)⟩
    · cases es
theorem sd_zip2 (hg : L2.Gl X "zip") (hm : X.mg "zip" = none) (ha : PE X e (TV X Bs W (evE G cl base c))) (hb : PE X e2 (TV X Bs W (evE G cl base c2)))
    (hs : starEach [e, e2] X.env = (false, eval e X.env) :: starEach [e2] X.env) (hs2 : starEach [e2] X.env = [(false, eval e2 X.env)]) (hpl : (backTo pos (starEach [e2] X.env)).any (·.1) = false) :
    PI X (.Tuple elts kk tpos) (.Call (.Name "zip" p) [e, e2] [] pos) (TIt X Bs W (evI G cl base (.zip2 c c2))) := by
  refine PI.imp (pi_zpB hg hm (sd_cons ha (sd_one hb hs2) hs) hs hpl) fun σ H RR h => T.bind (g := fun _ vs cs => R.of (match vs with
    | [v, u] => zip2Src v u
    | _ => none) cs) (T.as h fun s cs => ?_) fun w s vs xs cs H1 hs hh r run => ?_
  · rw [evEs_2]
    show ((evE G cl base c s cs).bind _).bind _ = (evE G cl base c s cs).bind _
    cases evE G cl base c s cs with
    | ok v cs1 =>
      show ((evE G cl base c2 s cs1).bind _).bind _ = (evE G cl base c2 s cs1).bind _
      cases evE G cl base c2 s cs1 <;> rfl
    | exc x cs1 => rfl
    | bad => rfl
  · obtain ⟨src, es, run⟩ := run.some_
    split at es
    · cases r with
      | cons r1 r2 =>
        cases r2 with
        | cons r2 r3 =>
          cases r3
          obtain ⟨xs, ys, ei, ej, rfl⟩ := zip2Src_some es
          obtain ⟨zs, t, a, f⟩ := fzS_of r1 ei
          obtain ⟨us, t2, a2, f2⟩ := fzS_of r2 ej
          rw [f.x, f2.x]
          exact ⟨t, a, zs, t2, a2, us, rfl, f.sq Wd.le.rfl.r hh, f2.sq Wd.le.rfl.r hh, run.done hh (.zpB f f2)⟩
    · cases es
theorem sd_zip3 (hg : L2.Gl X "zip") (hm : X.mg "zip" = none) (ha : PE X e (TV X Bs W (evE G cl base c))) (hb : PE X e2 (TV X Bs W (evE G cl base c2))) (hc : PE X e3 (TV X Bs W (evE G cl base c3)))
    (hs : starEach [e, e2, e3] X.env = (false, eval e X.env) :: starEach [e2, e3] X.env) (hs2 : starEach [e2, e3] X.env = (false, eval e2 X.env) :: starEach [e3] X.env) (hs3 : starEach [e3] X.env = [(false, eval e3 X.env)]) (hpl : (backTo pos (starEach [e2, e3] X.env)).any (·.1) = false) :
    PI X (.Tuple elts kk tpos) (.Call (.Name "zip" p) [e, e2, e3] [] pos) (TIt X Bs W (evI G cl base (.zip3 c c2 c3))) := by
  refine PI.imp (pi_zp3 hg hm (sd_cons ha (sd_cons hb (sd_one hc hs3) hs2) hs) hs hpl) fun σ H RR h => T.bind (g := fun _ vs cs => R.of (match vs with
    | [v, u, z] => zip3Src v u z
    | _ => none) cs) (T.as h fun s cs => ?_) fun w s vs xs cs H1 hs hh r run => ?_
  · rw [evEs_3]
    show ((evE G cl base c s cs).bind _).bind _ = (evE G cl base c s cs).bind _
    cases evE G cl base c s cs with
    | ok v cs1 =>
      show ((evE G cl base c2 s cs1).bind _).bind _ = (evE G cl base c2 s cs1).bind _
      cases evE G cl base c2 s cs1 with
      | ok u cs2 =>
        show ((evE G cl base c3 s cs2).bind _).bind _ = (evE G cl base c3 s cs2).bind _
        cases evE G cl base c3 s cs2 <;> rfl
      | exc x cs1 => rfl
      | bad => rfl
    | exc x cs1 => rfl
    | bad => rfl
  · obtain ⟨src, es, run⟩ := run.some_
    split at es
    · cases r with
      | cons r1 r2 =>
        cases r2 with
        | cons r2 r3 =>
          cases r3 with
          | cons r3 r4 =>
            cases r4
            obtain ⟨xs, ys, zs, e1, e2, e3, rfl⟩ := zip3Src_some es
            obtain ⟨vs, t, a, f⟩ := fzS_of r1 e1
            obtain ⟨us, t2, a2, f2⟩ := fzS_of r2 e2
            obtain ⟨ws, t3, a3, f3⟩ := fzS_of r3 e3
            rw [f.x, f2.x, f3.x]
            exact ⟨t, a, vs, t2, a2, us, t3, a3, ws, rfl, f.sq Wd.le.rfl.r hh, f2.sq Wd.le.rfl.r hh, f3.sq Wd.le.rfl.r hh, run.done hh (.zp3 f f2 f3)⟩
    · cases es
end
end EV
/-! SdX: dict comprehensions. -/
namespace EV
open PySem PySem.Spec PyProof.Rows L2

/-! ### pairs put one by one -/
def isPair : Val → Prop := fun x => ∃ k v, x = .tup [k, v]
theorem putAll_snoc {k v : Val} : ∀ {acc : List Val} (d : List (Val × Val)), (∀ x ∈ acc, isPair x) → putAll (acc ++ [.tup [k, v]]) d = dPut k v (putAll acc d)
  | [], d, _ => rfl
  | x :: r, d, h => by
    obtain ⟨a, b, rfl⟩ := h x List.mem_cons_self
    exact putAll_snoc (acc := r) (dPut a b d) fun y hy => h y (List.mem_cons_of_mem _ hy)
theorem dPut_len (k v : Val) (d : List (Val × Val)) : (dPut k v d).length ≤ d.length + 1 := by
  unfold dPut
  split
  · rw [List.length_map]
    exact Nat.le_succ _
  · rw [List.length_append]
    exact Nat.le_refl _
theorem putAll_len : ∀ {acc : List Val} (d : List (Val × Val)), (∀ x ∈ acc, isPair x) → (putAll acc d).length ≤ acc.length + d.length
  | [], d, _ => by
    show d.length ≤ 0 + d.length
    omega
  | x :: r, d, h => by
    obtain ⟨a, b, rfl⟩ := h x List.mem_cons_self
    have := putAll_len (acc := r) (dPut a b d) fun y hy => h y (List.mem_cons_of_mem _ hy)
    have := dPut_len a b d
    show (putAll r (dPut a b d)).length ≤ r.length + 1 + d.length
    omega
section
variable {X : Cx} {Bs : BX} {W : WX} {G : Gl} {cl : CallF} {base : Nat} {pos : Pos}
/-- key and value made and put at the list's end -/
def elPair (G : Gl) (cl : CallF) (base : Nat) (ke ve : E) (s : LSt) (acc : List Val) (cs : Cells) : R (List Val) := (evE G cl base ke s cs).bind fun k cs => (evE G cl base ve s cs).bind fun v cs => R.iff (k.key && Nat.blt acc.length 16777216) (.ok (acc ++ [.tup [k, v]]) cs)
theorem dc_one {t : Tg} {it : EV.It} {o : Oe} {ke ve : E} {own : List Nat} {wi : TI} {σ : L2.St} {H : Hp} {Q : VK} (hts : ∀ i ∈ t.slots, i ∈ own) (hw : ∀ σ H R, TIt X Bs W (evI G cl base it) σ H R → wi σ H R) (h : TN X Bs W (evE G cl base (.dc ke ve own (.one t it o))) σ H Q) :
    tDc wi (gTg X Bs t) (oTst X.K Bs G cl base o) (T X.K Bs (rV X.K) WF (evE G cl base ke)) (T X.K Bs (rV X.K) WF (evE G cl base ve)) own σ H Q := by
  obtain ⟨w0, s, cs0, hs0, hh0, run0⟩ := h
  let body : LSt → List Val → Cells → R (List Val) := fun s acc cs => oRun G cl base o s acc cs fun cs => elPair G cl base ke ve s acc cs
  let lp : Nat → Nat → Src → List Val → Cells → R (List Val) := fun m i src acc cs => loopC src (fun v cs => setT cs t v (wipeS s own)) body m i acc cs
  let fin : List Val → Cells → Prop := fun vs cs => Run X.K Bs (rN X.K) W σ w0 Q (.ok (.dct (putAll vs [])) cs)
  have run0 : Run X.K Bs (rN X.K) W σ w0 Q ((noX ((evI G cl base it s cs0).bind fun src cs => lp src.xs.length 0 src [] cs)).bind fun vs cs => .ok (.dct (putAll vs [])) cs) := by
    refine Eq.mp (congrArg _ ?_) run0
    cases o <;> rfl
  have q0 := run_quiet run0
  obtain ⟨src, cs1, ei, q1⟩ := quiet_bind q0
  refine hw _ _ _ ⟨w0, s, cs0, hs0, hh0, ?_⟩
  rw [ei]
  intro w1 J H1 l1 hh1 hJ D hD
  have hDA : w1.A D = none := hh1.none_A hD
  let Iv : Nat → Nat → Hp → Prop := fun i m H => m + i = src.xs.length ∧ ∃ w acc ds cs, w1.le w ∧ w.A D = some (.dK ds) ∧ (∀ x ∈ acc, isPair x) ∧ RepD X.K w (putAll acc []) ds ∧ SRel X.K w (wipeS s own) (wipe σ own) ∧ HRel X.K w Bs cs H ∧ Quiet fin (lp m i src acc cs)
  refine ⟨Iv, ⟨_, rfl, w1.withA D (some (.dK [])), [], [], cs1, le_withA .rfl hDA, withA_at, (fun _ h => nomatch h), .nil, ((hs0.mono l1).wipe own).wA, hh1.addA hD rfl, q1⟩, ?_⟩
  rintro i m H ⟨hm, w, acc, ds, cs, l, hA, hp, hr, hs, hh, q⟩
  cases m with
  | zero =>
    refine .inl ?_
    obtain ⟨⟨zs, en⟩, run⟩ := loopC_end q
    have hst := hJ.stop w cs H zs l.r hh en
    rw [← hm, Nat.zero_add] at hst
    obtain ⟨e1, e2, e3⟩ := hh.ac D _ hA
    refine ⟨hst, run (w.withA D none) _ H (l1.trans (le_withA l hDA)) hh.unA ⟨D, ds, rfl, e1, e2, withA_at, fun a ha y => ?_, hr.wA⟩⟩
    have ha : a < w.n := ha
    have hal : a < cs.length := by rw [← hh.n]; exact ha
    have := (hh.cell a _ (List.getElem?_eq_getElem hal)).2.2
    have y : w.i a = D := y
    rw [y, hA] at this
    cases this
  | succ m =>
    refine .inr ?_
    obtain ⟨v, s', ea, es, q2⟩ := loopC_turn q
    obtain ⟨hgo, hy⟩ := hJ.go i w cs H v l.r hh ea
    refine ⟨hgo, fun H' => Iv (i + 1) m H', fun H' q => ⟨m, Nat.lt_succ_self _, q⟩, fun x H' y => ?_⟩
    obtain ⟨w2, l2, hh2, r2⟩ := hy x H' y
    refine ⟨w2, wipeS s own, cs, v, s', hs.mono l2, hh2, r2, es, fun σ3 w3 H3 l3 hs3 hh3 hl3 ho3 => ⟨wipe_wipe hl3 ho3 hts, ?_⟩⟩
    refine oTst_of hs3 hh3 q2 fun w4 cs4 H4 l4 hh4 => ⟨fun q4 => ?_, fun q4 => ?_⟩
    · obtain ⟨k, cs5, ek, q5⟩ := quiet_bind q4
      obtain ⟨u, cs6, eu, q6⟩ := quiet_bind q5
      simp only [if_true]
      refine ⟨w4, s', cs4, hs3.mono l4, hh4, ?_⟩
      rw [ek]
      intro w5 y5 H5 l5 hh5 r5
      refine ⟨w5, s', cs5, (hs3.mono l4).mono l5, hh5, ?_⟩
      rw [eu]
      intro w6 y6 H6 l6 hh6 r6
      have hA6 : w6.A D = some (.dK ds) := l6.A _ _ (l5.A _ _ (l4.A _ _ (l3.A _ _ (l2.A _ _ hA))))
      obtain ⟨e1, e2, e3⟩ := hh6.ac D _ hA6
      have lw : w.le w6 := l2.trans (l3.trans (l4.trans (l5.trans l6)))
      cases hb : (k.key && Nat.blt acc.length 16777216) with
      | false => rw [hb] at q6; exact q6.elim
      | true =>
        rw [hb] at q6
        obtain ⟨hk, hlt⟩ := and2 hb
        have hlt : acc.length < 16777216 := Nat.le_of_ble_eq_true hlt
        obtain ⟨c, hc⟩ := key_some hk
        have hdl : ds.length < sizeLine := by
          have := putAll_len [] hp
          rw [← hr.length, sizeLine_eq]
          have : (putAll acc []).length ≤ acc.length + 0 := this
          omega
        refine ⟨ds, c, key_rep hc r5, e1, hdl, by omega, w6.withA D (some (.dK (putK ds c y6))), acc ++ [Val.tup [k, u]], putK ds c y6, cs6, le_withA (l.trans lw) hDA, withA_at, fun x hx => ?_, ?_, (hs.mono lw).wA, hh6.setA hA6 rfl, (show Quiet fin (lp m (i + 1) src (acc ++ [Val.tup [k, u]]) cs6) from q6)⟩
        · rcases List.mem_append.mp hx with hx | hx
          · exact hp x hx
          · rw [List.mem_singleton.mp hx]
            exact ⟨k, u, rfl⟩
        · rw [putAll_snoc [] hp]
          exact (RepD.put hc r6 (hr.mono lw)).wA
    · show if (false = true) then _ else _
      rw [if_neg Bool.false_ne_true]
      have lw : w.le w4 := l2.trans (l3.trans l4)
      exact ⟨by omega, w4, acc, ds, cs4, l.trans lw, lw.A _ _ hA, hp, hr.mono lw, hs.mono lw, hh4, q4⟩
theorem sd_dc {kx vx tg iter : Expr} {ifs : List Expr} {scope : Scope} {own : List (Str × Nat)} {t : Tg} {it : EV.It} {o : Oe} {ke ve : E} (hc : X.calm = true) (hN : X.N.Nodup) (hts : ∀ i ∈ t.slots, i ∈ own.map (·.2)) (hi : PI X tg iter (TIt X Bs W (evI G cl base it))) (ok : BlkOk X.N X.env.scope scope own)
    (hg : ∀ s H C clo fp, PG (Blk X scope s H C clo fp) tg (gTg X Bs t)) (ht : ∀ s H C clo fp, OcOk (Blk X scope s H C clo fp) Bs G cl base ifs o) (hk : ∀ s H C clo fp, PE (Blk X scope s H C clo fp) kx (T X.K Bs (rV X.K) WF (evE G cl base ke))) (he : ∀ s H C clo fp, PE (Blk X scope s H C clo fp) vx (T X.K Bs (rV X.K) WF (evE G cl base ve)))
    (hs : ∀ x, foldedSetIterable iter X.env x = pure x) : PE X (.DictComp kx vx [⟨tg, iter, ifs, 0⟩] scope pos) (TN X Bs W (evE G cl base (.dc ke ve (own.map (·.2)) (.one t it o)))) :=
  PE.imp (pe_dc (tt := oTst X.K Bs G cl base o) hc hN hi ok hg (fun s H C clo fp => (ht s H C clo fp).pts) hk he hs) fun σ H Q h => dc_one hts (fun _ _ _ h => h) h
theorem ps_setDc {i : Nat} {y : Str} {py spos : Pos} {kx vx tg iter : Expr} {ifs : List Expr} {scope : Scope} {own : List (Str × Nat)} {wi : TI} {g : TG} {tt : TT} {tk tv : TE} (hc : X.calm = true) (hN : X.N.Nodup) (hy : X.N[i]? = some y) (hyl : X.env.scope.names.lookup y = some .local)
    (hsw : swapsWith (.DictComp kx vx [⟨tg, iter, ifs, 0⟩] scope pos) (some (.Name y py)) spos.line X.env = pure true) (hi : PI X tg iter wi) (ok : BlkOk X.N X.env.scope scope own)
    (hg : ∀ s H C clo fp, PG (Blk X scope s H C clo fp) tg g) (ht : ∀ s H C clo fp, PTs (Blk X scope s H C clo fp) ifs tt) (hk : ∀ s H C clo fp, PE (Blk X scope s H C clo fp) kx tk) (he : ∀ s H C clo fp, PE (Blk X scope s H C clo fp) vx tv) (hs : ∀ x, foldedSetIterable iter X.env x = pure x) :
    PS X (.Assign [.Name y py] (.DictComp kx vx [⟨tg, iter, ifs, 0⟩] scope pos) spos) (tAsg (tDc wi g tt tk tv (own.map (·.2))) (gName i)) := by
  refine ⟨fun pins s σ H D I h => ?_⟩
  have h : tDc wi g tt tk tv (own.map (·.2)) σ H (fun x H1 => gName i x σ H1 D.nx) := h
  rw [exec_Assign_Name_used _ _ _ _ hsw]
  refine wpAny_bind (wpAny_standAt (wpAny_bind ?_))
  show wpAny _ X.A (do let _ ← comprehension (.DictComp kx vx [⟨tg, iter, ifs, 0⟩] scope pos) scope X.env (firstIterPos [⟨tg, iter, ifs, 0⟩] pos) newDict false (eval iter X.env) (some (assign (.Name y py) X.env))) _ _ s
  refine wpAny_bind (thn (dc_core (Qf := fun _ s' => SP X pins D .next s') hc hN I hi ok hg ht hk he hs h fun L C s' m H' I' q hn f => ?_) fun _ s' hq => wpAny_pure (wpAny_pure hq))
  obtain ⟨f0, f1, f2, f3, f4, f5⟩ := f
  refine wpAny_assign_Name (store_ok2 (v := V.ref L) I' hN hy (.inl hyl) rfl (fun s2 I2 ⟨a, sb, ha⟩ => ⟨m, hn.sameBut sb ?_, fun h3 sb3 => ⟨_, H', I2.turned (t' := s2.toks) (fun b o hb e => (sb3.2 b hb).trans e) f0 f1 f3 f4 f5, q⟩⟩) (.inr hyl))
  rcases ha with z | z
  · exact fun e => f1 (e.trans z)
  · exact fun e => f4 y a z e.symm
theorem bindD {r : R (List Val)} {v : Val} {cs' : Cells} (h : (r.bind fun vs cs => R.ok (Val.dct (putAll vs [])) cs) = .ok v cs') : ∃ xs, v = .dct xs := by
  cases r with
  | ok vs cs =>
    cases h
    exact ⟨_, rfl⟩
  | exc x cs => cases h
  | bad => cases h
/-- name = {..}, a cell; the name a local -/
theorem sd_setDc {f : Fr} {i : Nat} {y : Str} {py spos : Pos} {kx vx tg iter : Expr} {ifs : List Expr} {scope : Scope} {own : List (Str × Nat)} {t : Tg} {it : EV.It} {o : Oe} {ke ve : E} (hc : X.calm = true) (hN : X.N.Nodup) (hy : X.N[i]? = some y) (hyl : X.env.scope.names.lookup y = some .local)
    (hsw : swapsWith (.DictComp kx vx [⟨tg, iter, ifs, 0⟩] scope pos) (some (.Name y py)) spos.line X.env = pure true) (hts : ∀ i ∈ t.slots, i ∈ own.map (·.2)) (hi : PI X tg iter (TIt X f.Bs W (evI G cl f.base it))) (ok : BlkOk X.N X.env.scope scope own)
    (hg : ∀ s H C clo fp, PG (Blk X scope s H C clo fp) tg (gTg X f.Bs t)) (ht : ∀ s H C clo fp, OcOk (Blk X scope s H C clo fp) f.Bs G cl f.base ifs o) (hk : ∀ s H C clo fp, PE (Blk X scope s H C clo fp) kx (T X.K f.Bs (rV X.K) WF (evE G cl f.base ke))) (he : ∀ s H C clo fp, PE (Blk X scope s H C clo fp) vx (T X.K f.Bs (rV X.K) WF (evE G cl f.base ve)))
    (hs : ∀ x, foldedSetIterable iter X.env x = pure x) : PS X (.Assign [.Name y py] (.DictComp kx vx [⟨tg, iter, ifs, 0⟩] scope pos) spos) (TM1 X f W G cl (.asg (.nm i) (.cell (.dc ke ve (own.map (·.2)) (.one t it o))))) := by
  refine PS.imp (ps_setDc (tt := oTst X.K f.Bs G cl f.base o) hc hN hy hyl hsw hi ok hg (fun s H C clo fp => (ht s H C clo fp).pts) hk he hs) fun D σ H h => ?_
  refine dc_one hts (fun _ _ _ h => h) (T.cel ?_)
  exact TSm.ofR (k := fun s v cs => SR.ofO (setT cs (.nm i) v s) fun s => .nx s cs) h fun w s a x cs H' hs hh r run => run w _ H' .rfl (hs.set i r) hh
end
end EV
/-! SdY: the display of a dict's pairs and one more. -/
namespace EV
open PySem PySem.Spec PyProof.Rows L2

section
variable {prog : Program} {w : World} {K : Type} [DecidableEq K] {knd : KeyKind prog w K} {A : Around} {E : Value → Shared → Prop} {s : Shared}
theorem put_pairs {d : Addr} {kvs : List (K × Value)} {k : K} {key v : Value} {Q : Unit → Shared → Prop} (hkey : knd.is k key = true) (hm : s.heap.DictOf knd d kvs) (hsz : kvs.length ≤ sizeLine)
    (hQ : ∀ h', h'.DictOf knd d (stored kvs k v) → Heap.SameBut d s.heap h' → Q () { s with heap := h' }) : wpAny (model prog w) A (dictPut d (knd.hash k) key v) Q E s := by
  obtain ⟨o, es, ep, ho, hc, hd, hk, hp, hn⟩ := hm
  have hes : es.size ≤ sizeLine := by
    have e1 := hp.length
    have e2 : es.toList.length = es.size := by simp
    omega
  have hidx : (es.findIdx? fun e => knd.is k e.key) = kvs.findIdx? fun kv => decide (kv.1 = k) := by
    rw [← hp.findIdx k]
    obtain ⟨l⟩ := es
    simp
  unfold dictPut
  refine wpAny_bind (wpAny_dictFind_of hkey ho hd hk ?_)
  cases hi : es.findIdx? fun e => knd.is k e.key with
  | some i =>
    have st := (show stored kvs k v = if (kvs.any fun kv => decide (kv.1 = k)) = true then _ else _ from rfl).trans (if_pos (any_of_findIdx_some (hidx ▸ hi)))
    refine wpAny_updateDict ho hd (hQ _ ⟨_, _, ep, Heap.get?_update_self _ ho (Obj.isFreed_of_dict (Obj.data_mapDict hd _)), hc.mapDict _, Obj.data_mapDict hd _, hk.modify _ _, ?_, ?_⟩ (Heap.SameBut.update ..))
    · rw [st]
      have hl : (es.toList.findIdx? fun e => knd.is k e.key) = some i := by
        rw [← hi]
        obtain ⟨l⟩ := es
        simp
      have := hp.modify hn hl v
      obtain ⟨l⟩ := es
      simpa using this
    · rw [st, keys_map_store]
      exact hn
  | none =>
    have hnot : k ∉ kvs.map (·.1) := not_mem_of_findIdx_none (hidx ▸ hi)
    have hany : ¬ (kvs.any fun kv => decide (kv.1 = k)) = true := fun h => by
      obtain ⟨kv, hkv, he⟩ := List.any_eq_true.mp h
      exact hnot (List.mem_map.mpr ⟨kv, hkv, of_decide_eq_true he⟩)
    have st := (show stored kvs k v = if (kvs.any fun kv => decide (kv.1 = k)) = true then _ else _ from rfl).trans (if_neg hany)
    refine wpAny_updateDictKeys (hz := hes) ho hd (hQ _ ⟨_, _, ep + 1, Heap.get?_update_self _ ho (Obj.isFreed_of_dict (Obj.data_mapDictKeys hd _)), hc.mapDictKeys _, Obj.data_mapDictKeys hd _, hk.push hkey _, ?_, ?_⟩ (Heap.SameBut.update ..))
    · rw [st]
      have := hp.append hkey (knd.hash k) v
      obtain ⟨l⟩ := es
      simpa using this
    · rw [st, List.map_append, List.nodup_append]
      refine ⟨hn, by simp, fun x hx y hy => ?_⟩
      have hy : y = k := by simpa using hy
      rw [hy]
      exact fun e => hnot (e ▸ hx)
theorem noref {e : DictEntry} {es : Array DictEntry} (hk : KeysOf knd es) (he : e ∈ es.toList) : ∀ a, e.key ≠ .ref a := fun a z => by
  obtain ⟨k, h1, _⟩ := hk e (by simpa using he)
  rw [z] at h1
  exact absurd (knd.byValue k _ h1) (by simp [carriedByValue])
theorem merge_pairs {d a : Addr} {acc kvs : List (K × Value)} {Q : Unit → Shared → Prop} (hs : (a == sysModules) = false) (hne : a ≠ d) (hm : s.heap.DictOf knd d acc) (ha : s.heap.DictOf knd a kvs) (hsz : acc.length + kvs.length ≤ sizeLine)
    (hQ : ∀ h', h'.DictOf knd d (merged acc kvs) → Heap.SameBut d s.heap h' → Q () { s with heap := h' }) : wpAny (model prog w) A (mergeMapping d (.ref a) false) Q E s := by
  obtain ⟨oa, ea, epa, hoa, hca, hda, hka, hpa, hna⟩ := id ha
  obtain ⟨od, ed, epd, hod, hcd, hdd, hkd, hpd, hnd⟩ := id hm
  have ta : s.TypeIs (.ref a) "dict" := ⟨oa, hoa, hca.1⟩
  unfold mergeMapping
  refine wpAny_bind (wpAny_isInstance ta isSubtype_dict_dict ?_)
  simp only [if_true]
  refine wpAny_bind (wpAny_specialOf ta F.slot_dict_iter.lookup ?_)
  refine wpAny_bind (wpAny_pure ?_)
  have hsize : ea.size = kvs.length := by
    have e1 := hpa.length
    have e2 : ea.toList.length = ea.size := by simp
    omega
  -- the turns of the merge
  have go : ∀ (f : Nat → PUnit → Sem (ForInStep PUnit)), (∀ i (u : PUnit), f i u = (do
        let es ← dictEntries a
        match es[i]? with
        | some e => do
          holding [e.key, e.val] (dictPut d e.hash e.key e.val)
          let ep ← dictEpoch a
          if (ep != epa) = true then do
            unsupported "dict.changed-during-merge"
            pure (ForInStep.yield PUnit.unit)
          else pure (ForInStep.yield PUnit.unit)
        | x => do
          unsupported "dict.changed-during-merge"
          pure (ForInStep.yield PUnit.unit))) → wpAny (model prog w) A (do
      forIn (List.range ea.size) PUnit.unit f
      pure ()) Q E s := fun f hf => by
    refine wpAny_bind (wpAny_forIn_list f (fun rest _ s' => ∃ i h', rest = List.range' i (ea.size - i) ∧ i ≤ ea.size ∧ s' = { s with heap := h' } ∧ h'.DictOf knd d (merged acc (kvs.take i)) ∧ Heap.SameBut d s.heap h') (fun _ s' => wpAny (model prog w) A (pure ()) Q E s') (fun i rest u s' hI => ?_) (fun u s' hI => ?_) _ _ ⟨0, s.heap, by rw [List.range_eq_range', Nat.sub_zero], Nat.zero_le _, rfl, hm, Heap.SameBut.refl _ _⟩)
    · obtain ⟨j, h', hr, hj, rfl, hd', sb⟩ := hI
      have hj' : j < ea.size := by
        rcases Nat.lt_or_ge j ea.size with h | h
        · exact h
        · rw [Nat.sub_eq_zero_of_le h] at hr
          cases hr
      rw [show ea.size - j = (ea.size - (j + 1)) + 1 by omega, List.range'_succ] at hr
      obtain ⟨rfl, hrest⟩ := List.cons.inj hr
      have hoa' : h'.get? a = some oa := (sb.2 a hne).trans hoa
      have he : ea[i]? = some ea[i] := Array.getElem?_eq_getElem hj'
      rw [hf]
      refine wpAny_bind (wpAny_dictEntries (s := { s with heap := h' }) hoa' hda ?_)
      simp only [he]
      obtain ⟨k, hk1, hk2⟩ := hka ea[i] (Array.getElem_mem hj')
      have hkv : kvs[i]? = some (k, ea[i].val) := by
        have hl : i < kvs.length := by omega
        have e1 : ea.toList[i]? = some ea[i] := by simpa using he
        obtain ⟨g1, g2⟩ := hpa.get? e1 (show kvs[i]? = some (kvs[i].1, kvs[i].2) from List.getElem?_eq_getElem hl)
        rw [List.getElem?_eq_getElem hl, knd.inj _ _ _ hk1 g1, g2]
      refine wpAny_bind (wpAny_holding ?_)
      rw [hk2]
      refine put_pairs (s := { s with heap := h' }) hk1 hd' ?_ fun h2 hd2 sb2 => ?_
      · have := merged_length_le acc (kvs.take i)
        have := List.length_take_le i kvs
        omega
      · have hoa2 : h2.get? a = some oa := (sb2.2 a hne).trans hoa'
        refine wpAny_bind (wpAny_dictEpoch (s := { s with heap := h2 }) hoa2 hda ?_)
        simp only [bne_self_eq_false, Bool.false_eq_true, if_false]
        refine wpAny_pure ⟨i + 1, h2, hrest, hj', rfl, ?_, ?_⟩
        · rw [merged_take_succ acc kvs i _ hkv]
          exact hd2
        · exact ⟨sb2.1.trans sb.1, fun c hc => (sb2.2 c hc).trans (sb.2 c hc)⟩
    · obtain ⟨j, h', hr, hj, rfl, hd', sb⟩ := hI
      have hj' : j = ea.size := by
        have : (List.range' j (ea.size - j)).length = 0 := by rw [← hr]; rfl
        rw [List.length_range'] at this
        omega
      subst hj'
      rw [hsize, List.take_length] at hd'
      exact wpAny_pure (hQ h' hd' sb)
  simp only [beq_self_eq_true, hs, Bool.false_eq_true, if_false]
  refine wpAny_bind (wpAny_dictEntries hod hdd ?_)
  cases hemp : ed.isEmpty with
  | false =>
    simp only [Bool.false_eq_true, if_false]
    refine wpAny_bind (wpAny_dictEntries hoa hda ?_)
    refine wpAny_bind (wpAny_dictEpoch hoa hda ?_)
    exact go _ fun i u => rfl
  | true =>
    simp only [if_true]
    refine wpAny_bind (wpAny_dictEntries hoa hda ?_)
    refine wpAny_bind (wpAny_forIn_array' _ (fun rest _ s' => s' = s ∧ ∀ e ∈ rest, ∀ b, e.key ≠ Value.ref b) _ (fun e rest u s' hI => ?_) (fun u s' hI => ?_) ea _ ⟨rfl, fun e he => noref hka he⟩)
    · obtain ⟨rfl, hI⟩ := hI
      have h1 := hI e List.mem_cons_self
      split
      · rename_i b hb
        exact absurd hb (h1 b)
      · exact wpAny_pure ⟨rfl, fun e' he' => hI e' (List.mem_cons_of_mem _ he')⟩
    · obtain ⟨rfl, _⟩ := hI
      refine wpAny_bind (wpAny_dictEntries hoa hda ?_)
      refine wpAny_bind (wpAny_dictEpoch hoa hda ?_)
      exact go _ fun i u => rfl
end

/-! ### {**m, k: v} -/
def tDmg (tm tk tv : TE) : TE := fun σ H Q => ∀ d, H d = none → tm σ (upd H d (.dK [])) fun x H2 => ∃ a kvs, x = V.ref a ∧ Rd H2 a (.dK kvs) ∧ a ≠ d ∧ H2 d = some (.dK []) ∧ kvs.length + 1 ≤ sizeLine ∧
  ∀ p, upd H2 d (.dK kvs) p = none → tk σ (upd (upd H2 d (.dK kvs)) p (.dK [])) fun y H3 => tv σ H3 fun z H4 => ∃ c, y = kV c ∧ H4 p = some (.dK []) ∧ H4 d = some (.dK kvs) ∧ Q (.ref d) (upd (upd H4 p (.dK [(c, z)])) d (.dK (putK kvs c z)))
section
variable {X : Cx} {pos : Pos} {m k v : Expr} {tm tk tv : TE}
theorem pe_dmg (hm : PE X m tm) (hk : PE X k tk) (hv : PE X v tv) : PE X (.Dict [none, some k] [m, v] pos) (tDmg tm tk tv) := by
  refine ⟨fun pins s σ H Q I q => ?_⟩
  rw [arm_eval_Dict]
  refine wpAny_bind (wpAny_standAt ?_)
  show wpAny _ _ (dictDisplay [(none, do let x ← eval m X.env; standAt pos; pure x), (some (eval k X.env), do let x ← eval v X.env; standAt pos; pure x)]) _ _ s
  unfold dictDisplay
  simp only [List.forIn_cons, List.forIn_nil, List.isEmpty_nil, if_true, pure_bind, List.nil_append, List.length_singleton, List.isEmpty_cons, Bool.false_eq_true, if_false]
  have hn := I.hok.fresh (Nat.le_refl s.heap.objs.size)
  have I1 := I.laid (a := s.heap.objs.size) (o := .dK []) (h' := s.heap.push { cls := .type "dict", data := .dict #[] }) (t' := s.toks) (fun _ _ q => Heap.get?_push_of_some _ q) (Nat.le_refl _) (dk_empty s.heap I.big)
  refine wpAny_bind (wpAny_bind (wpAny_bind (wpAny_alloc ?_)))
  refine wpAny_bind (wpAny_holding (wpAny_bind (thn (hm.run pins _ σ _ _ I1 (q _ hn)) fun u s2 ⟨x, H2, I2, rx, a, kvs, ex, hr, had, hd, hl, q2⟩ => wpAny_bind (wpAny_standAt (wpAny_pure ?_)))))
  subst ex
  obtain rfl : u = Value.ref a := rx
  obtain ⟨za, hsa, va, ra, da⟩ := dk_rd I2.hok hr
  obtain ⟨zd, hsd, vd, rd0, dd⟩ := dk_of I2.hok hd
  cases rd0
  have hlen : ([] : List (Key × Value)).length + va.length ≤ sizeLine := by
    rw [← ra.length, List.length_nil]
    omega
  refine wpAny_bind (wpAny_onRaise (wpAny_tryCatch (wpAny_onRaise (wpAny_holding (merge_pairs (knd := mixKind X.prog X.w) hsa had dd da hlen fun h3 dd3 sb3 => wpAny_pure (wpAny_pure ?_))))))
  have hnd : merged [] va = va := merged_nil_of_nodup va (by
    obtain ⟨_, _, _, _, _, _, _, _, nd⟩ := da
    exact nd)
  rw [hnd] at dd3
  have I3 : Inv X pins σ (upd H2 s.heap.objs.size (.dK kvs)) { s2 with heap := h3, toks := s2.toks } :=
    d_write I2 (by rw [hd]; exact True.intro) sb3 (by obtain ⟨q, _, _, hq, _⟩ := dd3; exact ⟨q, hq⟩) (dk_new (by omega) hsd ra dd3)
  simp only [List.nil_append, List.length_singleton, show ((1 : Nat) == 17) = false from rfl, Bool.false_eq_true, if_false, pure_bind, List.isEmpty_cons]
  have hn3 : upd H2 s.heap.objs.size (.dK kvs) h3.objs.size = none := I3.hok.fresh (Nat.le_refl _)
  have I4 := I3.laid (a := h3.objs.size) (o := .dK []) (h' := h3.push { cls := .type "dict", data := .dict #[] }) (t' := s2.toks) (fun _ _ q => Heap.get?_push_of_some _ q) (Nat.le_refl _) (dk_empty h3 I3.big)
  let Q4 : List (V × V) → Hp → Prop := fun ps H4 => match ps with
    | [(y, z)] => ∃ c, y = kV c ∧ H4 h3.objs.size = some (.dK []) ∧ H4 s.heap.objs.size = some (.dK kvs) ∧ Q (.ref s.heap.objs.size) (upd (upd H4 h3.objs.size (.dK [(c, z)])) s.heap.objs.size (.dK (putK kvs c z)))
    | _ => False
  have q4 : tPairs [(tk, tv)] σ (upd (upd H2 s.heap.objs.size (.dK kvs)) h3.objs.size (.dK [])) Q4 := q2 _ hn3
  refine wpAny_bind (wpAny_bind (wpAny_holding (wpAny_subDict (knd := mixKind X.prog X.w) (show 1 ≤ 15 by omega) (thn ((pps_cons hk hv pps_nil).run pins _ σ _ Q4 I4 q4) fun ws s5 ⟨ps, H5, I5, rel, q5⟩ => ?_))))
  match ps, rel, q5 with
  | [(y, z)], rel, ⟨c, ey, hp5, hd5, q6⟩ =>
    subst ey
    obtain ⟨rs, cr, rk⟩ := carries_of (P := X.prog) (w := X.w) (kvs := [(c, z)]) rel
    obtain ⟨_, _, v0, r0, dd5⟩ := dk_of I5.hok hp5
    cases r0
    refine ⟨rs, cr, dd5, fun h6 dd6 sb6 => ?_⟩
    have hrs : merged [] rs = rs := by
      cases rk with
      | cons _ t =>
        cases t
        rfl
    rw [hrs] at dd6
    have ne : s.heap.objs.size ≠ h3.objs.size := fun e => by
      rw [← e, upd_same] at hn3
      cases hn3
    have I6 : Inv X pins σ (upd H5 h3.objs.size (.dK [(c, z)])) { s5 with heap := h6, toks := s5.toks + ws.length } :=
      d_write I5 (by rw [hp5]; exact True.intro) sb6 (by obtain ⟨q, _, _, hq, _⟩ := dd6; exact ⟨q, hq⟩) (dk_new (by show 1 ≤ sizeLine; decide) (by
        obtain ⟨_, hs, _⟩ := dk_of I5.hok hp5
        exact hs) rk dd6)
    have hd6 : upd H5 h3.objs.size (.dK [(c, z)]) s.heap.objs.size = some (.dK kvs) := by
      rw [upd_ne ne]
      exact hd5
    obtain ⟨zz, hs7, v7, r7, dd7⟩ := dk_of I6.hok hd6
    have hl7 : v7.length + rs.length ≤ sizeLine := by
      rw [← r7.length, ← rk.length]
      exact hl
    obtain ⟨_, hsp, _⟩ := dk_of I5.hok hp5
    refine wpAny_bind (wpAny_onRaise (wpAny_holding (merge_pairs (knd := mixKind X.prog X.w) hsp (Ne.symm ne) dd7 dd6 hl7 fun h8 dd8 sb8 => ?_)))
    refine wpAny_pure (wpAny_pure ?_)
    have rk8 : KV (putK kvs c z) (merged v7 rs) := (KV.merge rk r7 : KV (mergeK kvs [(c, z)]) (merged v7 rs))
    refine ⟨.ref s.heap.objs.size, _, d_write I6 (by rw [hd6]; exact True.intro) sb8 (by obtain ⟨q, _, _, hq, _⟩ := dd8; exact ⟨q, hq⟩) (dk_new ?_ hs7 rk8 dd8), rfl, q6⟩
    have := length_putK kvs c z
    omega
end
section
variable {X : Cx} {Bs : BX} {W : WX} {G : Gl} {cl : CallF} {base : Nat} {pos : Pos} {m k v : Expr} {cm ck cv : E}
theorem le_withA2 {w : Wd} {D : Addr} {o : Option HO} (h : w.A D = none) : w.le (w.withA D o) := le_withA .rfl h
def dmgK (G : Gl) (cl : CallF) (base : Nat) (ck cv : E) (s : LSt) (m : Val) (cs : Cells) : R Val := match m with
  | .dct kvs => R.iff (sizeOk (kvs.length + 1)) ((evE G cl base ck s cs).bind fun k cs => (evE G cl base cv s cs).bind fun v cs => R.iff k.key (.ok (.dct (dPut k v kvs)) cs))
  | _ => .bad
/-- the next run, in any world from which it can be reached -/
theorem T.step {α β γ δ : Type} {Rp : RP α β} {Rp1 : RP γ δ} {f : LSt → Cells → R γ} {g : γ → Cells → R α} {σ : L2.St} {w w0 : Wd} {s : LSt} {cs : Cells} {H : Hp} {Q : β → Hp → Prop} {Q1 : δ → Hp → Prop} (hs : SRel X.K w0 s σ) (hh : HRel X.K w0 Bs cs H) (l : w.le w0)
    (h : Run X.K Bs Rp W σ w Q ((f s cs).bind g)) (k : ∀ w1 a x cs1 H1, w0.le w1 → HRel X.K w1 Bs cs1 H1 → Rp1 w1 H1 a x → Run X.K Bs Rp W σ w Q (g a cs1) → Q1 x H1) : T X.K Bs Rp1 W f σ H Q1 := by
  refine ⟨w0, s, cs, hs, hh, ?_⟩
  cases e : f s cs with
  | ok a cs1 =>
    rw [e] at h
    exact fun w' x H' l' hh' rp => k w' a x cs1 H' l' hh' rp h
  | exc x cs1 =>
    rw [e] at h
    exact Run.mono (Rp := Rp1) (Q := Q1) (r := .exc x cs1) l h
  | bad =>
    rw [e] at h
    exact h
theorem sd_dmg (hm : PE X m (TV X Bs W (evE G cl base cm))) (hk : PE X k (TV X Bs W (evE G cl base ck))) (hv : PE X v (TV X Bs W (evE G cl base cv))) : PE X (.Dict [none, some k] [m, v] pos) (TN X Bs W (evE G cl base (.dmg cm ck cv))) := by
  refine PE.imp (pe_dmg hm hk hv) fun σ H Q ⟨w, s, cs, hs, hh, hr⟩ => fun d hd => ?_
  have hr : Run X.K Bs (rN X.K) W σ w Q ((evE G cl base cm s cs).bind fun m cs => dmgK G cl base ck cv s m cs) := hr
  have hdA := hh.none_A hd
  refine T.step hs.wA (hh.addA hd rfl) (le_withA2 hdA) hr fun w1 a x cs1 H1 l1 hh1 r1 run1 => ?_
  have hA1 : w1.A d = some (.dK []) := l1.A _ _ withA_at
  obtain ⟨g1, g2, _⟩ := hh1.ac d _ hA1
  have lw1 : w.le w1 := (le_withA2 hdA).trans l1
  cases r1 with
  | dct hp r =>
    rename_i kvs p o ds
    obtain ⟨hz, run1⟩ := Run.iff_ (show Run X.K Bs (rN X.K) W σ w Q (R.iff (sizeOk (kvs.length + 1)) ((evE G cl base ck s cs1).bind fun k cs => (evE G cl base cv s cs).bind fun v cs => R.iff k.key (.ok (.dct (dPut k v kvs)) cs))) from run1)
    have hne : p ≠ d := fun e => by
      rw [e, g2] at hp
      cases hp
    refine ⟨p, ds, rfl, .inr ⟨o, hh1.fr _ _ hp⟩, hne, g1, by rw [← r.length]; exact line_of hz, fun p2 hp2 => ?_⟩
    have hh2 := hh1.setA (o' := .dK ds) hA1 rfl
    have hA2 := hh2.none_A hp2
    have hh3 := hh2.addA (o := .dK []) hp2 rfl
    have lw2 : w.le (w1.withA d (some (.dK ds))) := le_withA lw1 hdA
    have lw3 : w.le ((w1.withA d (some (.dK ds))).withA p2 (some (.dK []))) := lw2.trans (le_withA2 hA2)
    have hpd : d ≠ p2 := fun e => by
      rw [← e, withA_at] at hA2
      cases hA2
    refine T.step (hs.mono lw3) hh3 lw3 run1 fun w4 b y cs4 H4 l4 hh4 r4 run4 => ?_
    refine T.step ((hs.mono lw3).mono l4) hh4 (lw3.trans l4) run4 fun w5 c z cs5 H5 l5 hh5 r5 run5 => ?_
    obtain ⟨hb, run6⟩ := Run.iff_ run5
    obtain ⟨q, hq⟩ := key_some hb
    have lw5 : ((w1.withA d (some (.dK ds))).withA p2 (some (.dK []))).le w5 := l4.trans l5
    have hAp : w5.A p2 = some (.dK []) := lw5.A _ _ withA_at
    have hAd : w5.A d = some (.dK ds) := lw5.A _ _ ((withA_ne hpd).trans withA_at)
    obtain ⟨f1, f2, _⟩ := hh5.ac p2 _ hAp
    obtain ⟨f3, f4, _⟩ := hh5.ac d _ hAd
    refine ⟨q, key_rep hq (r4.mono l5), f1, f3, ?_⟩
    have k1 := hh5.setA (o' := .dK [(q, z)]) hAp rfl
    have k2 := k1.setA (D := d) (o' := .dK (putK ds q z)) ((withA_ne hpd).trans hAd) rfl
    have k3 := (k2.unA (D := d)).unA (D := p2)
    have lwe : w.le w5 := lw3.trans lw5
    have hA0 : w.A p2 = none := by
      cases e : w.A p2 with
      | none => rfl
      | some u =>
        have := lw2.A _ _ e
        rw [hA2] at this
        cases this
    have lw6 : w.le ((((w5.withA p2 (some (.dK [(q, z)]))).withA d (some (.dK (putK ds q z)))).withA d none).withA p2 none) := le_withA (le_withA (le_withA (le_withA lwe hA0) hdA) hdA) hA0
    have rr : RepD X.K w5 (dPut b c kvs) (putK ds q z) := RepD.put hq r5 (RepD.mono lw5 ((r.wA (D := d) (o := some (.dK ds))).wA (D := p2) (o := some (.dK []))))
    refine Run.done' run6 lw6 k3 ⟨d, putK ds q z, rfl, upd_same, f4, ?_, fun a ha y => ?_, (((rr.wA).wA).wA).wA⟩
    · rw [withA_ne hpd, withA_at]
    · have ha : a < w5.n := ha
      have hal : a < cs5.length := by rw [← hh5.n]; exact ha
      have := (hh5.cell a _ (List.getElem?_eq_getElem hal)).2.2
      have y : w5.i a = d := y
      rw [y, hAd] at this
      cases this
  | _ => exact run1.elim
end
end EV
/-! SdZ: a, b, *r = a tuple. -/
namespace EV
open PySem PySem.Spec PyProof.Rows L2

section
variable {P : Program} {w : World} {A : Around} {E : Value → Shared → Prop} {s : Shared}
theorem rest_walk (hh : A.handled = none) (it t : Addr) (hne : t ≠ it) (items : Array Value) (i : Nat) (hi : i ≤ items.size) :
    WalksS P w A it [it, t] [it] (fun a b => b = a) (items.size - i) (fun j v => items[i + j]? = some v) (fun j s => s.heap.IsTupleIter it t (i + j) ∧ s.heap.IsTuple t items) where
  sub := fun b hb => by
    rw [List.mem_singleton.mp hb]
    exact List.mem_cons_self
  grefl := fun _ => rfl
  gtrans := fun a b c h g => g.trans h
  frame := fun j s h' tk st _ hk => ⟨st.1.at fun o e => hk it (by simp) o e, st.2.at fun o e => hk t (by simp) o e⟩
  item := fun j s Q E hj st hQ => by
    have hl : i + j < items.size := by omega
    refine wpAny_pyNext_tuple_item st.1 st.2 (x := items[i + j]) (by simp [hl]) fun h' hit' hs' => ?_
    exact hQ _ _ (by simp [hl]) ⟨hit', st.2.extBut hs'.extBut hne⟩ ⟨fun b o hb e => hs'.extBut b o (fun z => hb (by simp [z])) e, rfl, rfl, rfl, Nat.le_refl _⟩
  done := fun s Q E st hQ => by
    refine wpAny_pyNext_tuple_end hh st.1 st.2 (by simp; omega) fun h' hs' => ?_
    exact hQ _ ⟨fun b o hb e => hs' b o (fun z => hb (by simp [z])) e, rfl, rfl, rfl, Nat.le_refl _⟩
  self := fun j s Q E st h => wpAny_pyIter_tupleiter st.1 h
theorem items_rest {its : Array Value} {i : Nat} {acc : Array Value} (hi : i ≤ its.size) (h : ItemsOf (fun j v => its[i + j]? = some v) acc (its.size - i)) : acc.toList = its.toList.drop i := by
  obtain ⟨h1, h2⟩ := h
  apply List.ext_getElem?
  intro j
  rw [List.getElem?_drop]
  rcases Nat.lt_or_ge j acc.size with hj | hj
  · have := h2 j acc[j] (Array.getElem?_eq_getElem hj)
    simp only [Array.getElem?_toList, Array.getElem?_eq_getElem hj]
    exact this.symm
  · simp only [Array.getElem?_toList]
    rw [Array.getElem?_eq_none hj, Array.getElem?_eq_none (by omega)]
theorem unpack_star {t : Addr} {items : Array Value} {i : Nat} {targets : List (Bool × (Value → Sem Unit))} {Q : Unit → Shared → Prop} (hh : A.handled = none) (ht : s.heap.IsTuple t items) (hsz : items.size ≤ sizeLine) (hi : i ≤ items.size) (hn : targets.length = i + 1) (hstar : targets.findIdx? (·.1) = some i)
    (h : ∀ s' : Shared, (∀ b o, s.heap.get? b = some o → s'.heap.get? b = some o) → s'.gens = s.gens → s'.drawn = s.drawn → s'.os = s.os →
      wpAny (model P w) A (assignInOrder (targets.map (·.2)) (items.toList.take i ++ [.ref s'.heap.objs.size])) Q E { s' with heap := s'.heap.push { cls := .type "list", data := .seq (items.toList.drop i).toArray } }) : wpAny (model P w) A (unpack (.ref t) targets) Q E s := by
  have hlt : t < s.heap.objs.size := by
    obtain ⟨o, ho, _⟩ := ht
    exact Heap.lt_size ho
  have hne : t ≠ s.heap.objs.size := Nat.ne_of_lt hlt
  have it0 : IsTup s.heap t items := ht
  unfold unpack
  rw [hn, hstar]
  refine wpAny_bind (wpAny_holding ?_)
  unfold unpackItems
  refine wpAny_bind ?_
  unfold notIterableAtAll
  refine wpAny_bind (wpAny_specialOf it0.typeIs slot_tuple_iter.lookup (wpAny_pure ?_))
  simp only [Bool.false_eq_true, if_false]
  refine wpAny_bind (wpAny_holding (iter_tuple it0 ?_))
  refine wpAny_bind (wpAny_holding (draw_tuple hne i 0 _ _ ⟨_, Heap.get?_push_size _ rfl, rfl, rfl⟩ (it0.push _) (by omega) fun h₁ hit₁ hs₁ => ?_))
  rw [List.drop_zero, Nat.zero_add] at *
  have hl1 : (items.toList.take i).length = i := by simp; omega
  rw [if_neg (by rw [hl1]; omega)]
  have ht₁ : IsTup h₁ t items := (it0.push _).extBut hs₁.extBut hne
  have k1 : ∀ b o, s.heap.get? b = some o → h₁.get? b = some o := fun b o e => hs₁.extBut b o (Nat.ne_of_lt (Heap.lt_size e)) (Heap.get?_push_of_some _ e)
  have z1 : h₁.objs.size = s.heap.objs.size + 1 := by rw [hs₁.1, Heap.size_push]
  refine wpAny_bind (wpAny_holding (wpAny_collect_iter (s := { s with heap := h₁ }) (.inr (.inr (.inr rfl))) (rest_walk (A := A.in1) hh s.heap.objs.size t hne items i hi) (fun j s st => st.1.typeIs) ⟨hit₁, ht₁⟩ (fun b hb => ?_) (by simp) (fun s' acc mv hacc => ?_) (by omega)))
  · show b < h₁.objs.size
    rw [z1]
    rcases List.mem_cons.mp hb with e | hb
    · rw [e]; exact Nat.lt_succ_self _
    · rw [List.mem_singleton.mp hb]; exact Nat.lt_succ_of_lt hlt
  · rw [items_rest hi hacc]
    have k2 : ∀ b o, s.heap.get? b = some o → s'.heap.get? b = some o := fun b o e => mv.heap b o (by simp; exact Nat.ne_of_lt (Heap.lt_size e)) (k1 b o e)
    simp only [show i + 1 - 1 - i = 0 by omega, Nat.not_lt_zero, if_false, Nat.sub_zero, List.take_length, List.drop_length, List.append_nil]
    exact wpAny_bind (wpAny_newObj_type (wpAny_pure (h s' k2 mv.gens mv.drawn mv.os)) (by
      show (items.toList.drop i).toArray.size ≤ sizeLine
      simp
      omega))
end
/-- a, b, *r -/
def gSt (K : Fg) (i : Nat) (t : TGs) : TG := fun v σ H Q => ∃ a xs, v = V.ref a ∧ SqT K H a xs ∧ i ≤ xs.length ∧ ∀ p, H p = none → t (xs.take i ++ [V.ref p]) σ (upd H p (.lst (xs.drop i))) Q
section
variable {X : Cx} {es : List Expr} {k i : Nat} {pos : Pos} {t : TGs} {x : Str} {p q : Pos}
theorem vals_take {xs : List V} {us : List Value} : ∀ n, Vals xs us → Vals (xs.take n) (us.take n) := fun n h => by
  induction h generalizing n with
  | nil => rw [List.take_nil, List.take_nil]; exact .nil
  | cons r _ ih =>
    cases n with
    | zero => exact .nil
    | succ n => exact .cons r (ih n)
theorem vals_drop {xs : List V} {us : List Value} : ∀ n, Vals xs us → Vals (xs.drop n) (us.drop n) := fun n h => by
  induction h generalizing n with
  | nil => rw [List.drop_nil, List.drop_nil]; exact .nil
  | cons r t ih =>
    cases n with
    | zero => exact .cons r t
    | succ n => exact ih n
theorem vals_app {xs ys : List V} {us ws : List Value} (h : Vals xs us) (g : Vals ys ws) : Vals (xs ++ ys) (us ++ ws) := by
  induction h with
  | nil => exact g
  | cons r _ ih => exact .cons r ih
theorem pg_star (hc : X.calm = true) (h : PGs X (es ++ [.Name x p]) t) (hm : (assignEach (es ++ [.Starred (.Name x p) q]) X.env).map (·.2) = (assignEach (es ++ [.Name x p]) X.env).map (·.2)) (hn : (assignEach (es ++ [.Starred (.Name x p) q]) X.env).length = i + 1)
    (hst : (assignEach (es ++ [.Starred (.Name x p) q]) X.env).findIdx? (·.1) = some i) : PG X (.Tuple (es ++ [.Starred (.Name x p) q]) k pos) (gSt X.K i t) := by
  refine ⟨fun pins s σ H v u Q I r hw => ?_⟩
  obtain ⟨a, xs, e1, hq, hl, hw⟩ := hw
  subst e1
  cases r
  obtain ⟨its, rv, ht, hz⟩ := I.tuple hq
  have hz2 : its.toArray.size ≤ sizeLine := by rw [List.size_toArray, ← rv.length]; exact hz
  rw [assign_Tuple]
  refine wpAny_bind (wpAny_standAt (unpack_star (I.ok.hd hc) ht hz2 (by rw [List.size_toArray, ← rv.length]; exact hl) hn hst fun s' k2 hg hd ho => ?_))
  have I1 : Inv X pins σ H s' := by
    have e : s' = { s with heap := s'.heap, toks := s'.toks } := by
      obtain ⟨h', g', d', t', o'⟩ := s'
      have hg : g' = s.gens := hg
      have hd : d' = s.drawn := hd
      have ho : o' = s.os := ho
      rw [hg, hd, ho]
    rw [e]
    exact I.kept (t' := s'.toks) k2
  rw [hm]
  have I2 := I1.laid (a := s'.heap.objs.size) (o := .lst (xs.drop i)) (t' := s'.toks) (h' := s'.heap.push { cls := .type "list", data := .seq (its.toArray.toList.drop i).toArray }) (fun _ _ q => Heap.get?_push_of_some _ q) (Nat.le_refl _)
    ⟨by rw [List.length_drop]; omega, its.drop i, 0, vals_drop i rv, by simpa using Heap.get?_push_size s'.heap (o := { cls := .type "list", data := .seq (its.drop i).toArray }) rfl⟩
  exact h.run pins _ σ _ _ _ Q I2 (vals_app (by simpa using vals_take i rv) (.cons (show RelV (V.ref s'.heap.objs.size) (.ref s'.heap.objs.size) from rfl) .nil)) (hw _ (I1.hok.fresh (Nat.le_refl _)))
theorem setAll_app : ∀ {is : List Nat} {j : Nat} {vs : List Val} {v : Val} {s : LSt}, vs.length = is.length → setAll (is ++ [j]) (vs ++ [v]) s = (setAll is vs s).map fun s => s.set j (some v)
  | [], j, [], v, s, _ => rfl
  | i :: is, j, u :: vs, v, s, h => setAll_app (is := is) (Nat.succ.inj h)
  | [], _, _ :: _, _, _, h => nomatch h
  | _ :: _, _, [], _, _, h => nomatch h
/-- what is known of the names ahead of the star -/
theorem NmsOk.star {is : List Nat} (h : NmsOk X es is) : (assignEach (es ++ [.Starred (.Name x p) q]) X.env).map (·.2) = (assignEach (es ++ [.Name x p]) X.env).map (·.2) ∧ (assignEach (es ++ [.Starred (.Name x p) q]) X.env).length = is.length + 1 ∧ (assignEach (es ++ [.Starred (.Name x p) q]) X.env).findIdx? (·.1) = some is.length := by
  induction h with
  | nil => exact ⟨rfl, rfl, rfl⟩
  | @cons y i p' es is a b ih =>
    obtain ⟨h1, h2, h3⟩ := ih
    refine ⟨?_, ?_, ?_⟩
    · show assign (.Name y p') X.env :: (assignEach (es ++ [.Starred (.Name x p) q]) X.env).map (·.2) = _
      rw [h1]
      rfl
    · show (assignEach (es ++ [.Starred (.Name x p) q]) X.env).length + 1 = _
      rw [h2]
      rfl
    · show ((false, assign (.Name y p') X.env) :: assignEach (es ++ [.Starred (.Name x p) q]) X.env).findIdx? (·.1) = _
      rw [List.findIdx?_cons, h3]
      rfl
theorem NmsOk.snoc {is : List Nat} {j : Nat} (h : NmsOk X es is) (g : NmOk X x j) : NmsOk X (es ++ [.Name x p]) (is ++ [j]) := by
  induction h with
  | nil => exact .cons g .nil
  | cons a b ih => exact .cons a ih
theorem sg_st {Bs : BX} {is : List Nat} {j : Nat} (hc : X.calm = true) (hN : X.N.Nodup) (h : NmsOk X es is) (g : NmOk X x j) : PG X (.Tuple (es ++ [.Starred (.Name x p) q]) k pos) (gTg X Bs (.st is j)) := by
  obtain ⟨h1, h2, h3⟩ := NmsOk.star (x := x) (p := p) (q := q) h
  obtain ⟨g1, _, _⟩ := (NmsOk.snoc (p := p) h g).pgs hN
  refine PG.imp (pg_star hc g1 h1 h2 h3) fun v σ H Q ⟨w, s, cs, u, s', hs, hh, r, e, qq⟩ => ?_
  have e : ((tupOf u).bind fun xs => if is.length ≤ xs.length then setAll (is ++ [j]) (xs.take is.length ++ [.lst (xs.drop is.length)]) s else none) = some s' := e
  cases et : tupOf u with
  | none => rw [et] at e; cases e
  | some xs =>
    rw [et] at e
    have e : (if is.length ≤ xs.length then setAll (is ++ [j]) (xs.take is.length ++ [.lst (xs.drop is.length)]) s else none) = some s' := e
    by_cases hl : is.length ≤ xs.length
    · rw [if_pos hl] at e
      obtain ⟨a, ys, rfl, hp, rr⟩ := hh.tup_ r et
      refine ⟨a, ys, rfl, hp, by rw [← rr.length]; exact hl, fun b hb => ⟨?_, ?_⟩⟩
      · rw [List.length_append, List.length_append, List.length_take, Nat.min_eq_left (by rw [← rr.length]; exact hl)]
        rfl
      · obtain ⟨hh2, rn⟩ := hh.newL hb (rr.drop is.length)
        obtain ⟨b', ys', eb, hb', hF, hA, hi, rl⟩ := rn
        cases eb
        have lf := Wd.fz_le (o := .lst ys') hF
        have hh3 := hh2.fzSame hb' hF hA hi fun _ z => nomatch z
        have rb : RepV X.K (w.fz b (.lst ys')) (.lst (xs.drop is.length)) (.ref b) := .lst fz_at (rl.mono lf)
        exact qq _ _ _ lf (setM_rel (((rr.mono lf).take is.length).append (.cons rb .nil)) e (hs.mono lf)) hh3 (setM_len ..) fun j hj => setM_out _ _ _ hj
    · rw [if_neg hl] at e
      cases e
end
end EV
/-! SeB: sorted(set(..)), len(set(..)). -/
namespace EV
open PySem PySem.Spec PyProof.Rows L2

theorem len_addAll2 (xs : List Str) : (txAll xs []).length ≤ xs.length := by
  have := len_txAll xs []
  simpa using this
theorem strs_perm {us vs : List Value} (p : us.Perm vs) : ∀ {zs : List Str}, StrsAre us zs → ∃ ws, StrsAre vs ws ∧ ws.Perm zs := by
  induction p with
  | nil => exact fun h => ⟨_, h, .refl _⟩
  | cons x _ ih =>
    intro zs h
    cases h with
    | cons k t r =>
      obtain ⟨ws, h1, h2⟩ := ih r
      exact ⟨_, .cons k t h1, h2.cons _⟩
  | swap x y l =>
    intro zs h
    cases h with
    | cons k t r =>
      cases r with
      | cons k' t' r => exact ⟨_, .cons k' t' (.cons k t r), .swap _ _ _⟩
  | trans _ _ ih1 ih2 =>
    intro zs h
    obtain ⟨ws, h1, h2⟩ := ih1 h
    obtain ⟨ws', h3, h4⟩ := ih2 h1
    exact ⟨ws', h3, h4.trans h2⟩
section
variable {P : Program} {w : World} {A : Around} {E : Value → Shared → Prop} {s : Shared}
theorem sorted_tx {a : Addr} {l : List Str} {Q : Value → Shared → Prop} (R : TxR P w s.heap a l) (hh : A.handled = none) (h64 : l.length < 64)
    (hQ : ∀ s' p (out : Array Value) (c : Nat) (ys : List Str), (∀ b o, s.heap.get? b = some o → s'.heap.get? b = some o) → s'.gens = s.gens → s'.os = s.os → s.heap.objs.size ≤ p → s'.heap.get? p = some (seqObj "list" out c) → StrsAre out.toList ys → ys.Perm l → sortedS ys = true → Q (.ref p) s') :
    wpAny (model P w) A (call (.builtin "sorted") [.ref a]) Q E s := by
  obtain ⟨es, ep, t, hat, hf, hsz, hr, hl, us, hus, zs, hzs, pz⟩ := R.at_
  refine Calls.call_function_entry kind_sorted plain_sorted entry_sorted (args_sorted1 _) ?_
  unfold Builtin.«sorted»
  refine wpAny_bind (m := checkCount "sorted" 1 1 _) (wpAny_pure ?_)
  refine wpAny_bind (collect_set (A := A.in1) hh hat hf (by rw [hsz]; exact Nat.lt_trans h64 (by decide)) hr hl fun s1 vs k1 hz g1 o1 pm => ?_)
  rw [hus] at pm
  have hvl : vs.length = l.length := by
    rw [pm.length_eq, hzs.length, pz.length_eq]
  obtain ⟨ws, hws, pw⟩ := strs_perm pm.symm hzs
  refine wpAny_bind (wpAny_newList ?_ (by rw [hvl, sizeLine_eq]; omega))
  have hoL : (s1.heap.push (seqObj "list" vs.toArray 0)).get? s1.heap.objs.size = some (seqObj "list" vs.toArray 0) := Heap.get?_push_size _ rfl
  refine wpAny_bind (wpAny_holding (wpAny_call_entry slot_list_sort ⟨_, hoL, rfl⟩ entry_list_sort (list_sort_treeK strKind_oneLt hoL hws.keysOf (fun v₁ v₂ rest e => keyKind_strs (by rw [← e]; exact hws)) (by rw [hvl]; exact h64) fun st' hp hs => ⟨_, rfl, ?_⟩) (args_list_sort _)))
  obtain ⟨ys, q1, q2, q3⟩ := sorted_out_str hws hp hs
  obtain ⟨c, hc⟩ := sortedHeap_at (vs := vs) (out := (arrOf st').map (·.2)) hoL
  refine wpAny_pure ⟨_, rfl, hQ _ s1.heap.objs.size _ c ys (fun b u e => ?_) g1 o1 hz hc q1 (q2.trans (pw.trans pz)) q3⟩
  have q := k1 b u e
  have hlt := Heap.lt_size q
  rw [sortedHeap_old (Nat.ne_of_lt hlt) (by rw [Heap.size_push]; exact Nat.lt_succ_of_lt hlt)]
  exact Heap.get?_push_of_some _ q
end

/-! ### in the layer -/
def SetTx (P : Program) (w : World) (a : Addr) (l : List Str) : HO := .ext fun h => TxR P w h a l
theorem setTx_new {P : Program} {w : World} {H : Hp} {h : Heap} {a : Addr} {l : List Str} (R : TxR P w h a l) : ObjOk P w H h a (SetTx P w a l) := by
  have ⟨D, ho, _⟩ := R
  exact ⟨R, ⟨_, ho⟩, fun h1 h2 p k => p.keep k⟩
theorem setTx_get {X : Cx} {pins : List (Addr × Obj)} {σ : L2.St} {H : Hp} {s : Shared} {a : Addr} {l : List Str} (I : Inv X pins σ H s) (ha : H a = some (SetTx X.prog X.w a l)) : TxR X.prog X.w s.heap a l := (I.hok a _ ha).1
section
variable {X : Cx} {pins : List (Addr × Obj)} {σ : L2.St} {H : Hp} {s : Shared} {Q : VK}
/-- sorted of the set that stands at a -/
theorem sort_tx (I : Inv X pins σ H s) (hc : X.calm = true) {a : Addr} {l : List Str} (R : TxR X.prog X.w s.heap a l) (h64 : l.length < 64) (q : ∀ ys p, ys.Perm l → sortedS ys = true → H p = none → Q (.ref p) (upd H p (.lst (ys.map V.str)))) :
    wpAny (model X.prog X.w) X.A (call (.builtin "sorted") [.ref a]) (EP X pins σ Q) X.xe s := by
  refine sorted_tx R (I.ok.hd hc) h64 fun s' p out c ys k g o hp hg hi pm hs => ?_
  have hlen : (ys.map V.str).length ≤ sizeLine := by
    rw [List.length_map, pm.length_eq, sizeLine_eq]
    omega
  have hn : H p = none := I.hok.fresh hp
  have J : Inv X pins σ (upd H p (.lst (ys.map V.str))) { s with heap := s'.heap, gens := s'.gens, drawn := s'.drawn, toks := s'.toks } :=
    I.call (ch := []) (Un.laid k hp hn) (I.hok.laid k hp ⟨hlen, out.toList, c, vals_of_strs hi, hg⟩) (by rw [g]; exact I.bare) (fun _ z => nomatch z)
  have e : s' = { s with heap := s'.heap, gens := s'.gens, drawn := s'.drawn, toks := s'.toks } := by
    obtain ⟨h', g', d', t', o'⟩ := s'
    have o : o' = s.os := o
    rw [o]
  rw [e]
  exact ⟨.ref p, _, J, rfl, q ys p pm hs hn⟩
end
def tSetX (K : Fg) (ta : TE) (k : List Str → Hp → VK → Prop) : TE := fun σ H Q => ta σ H fun x H1 => ∃ t a xs, x = V.ref a ∧ SqB K H1 t a (xs.map V.str) ∧ xs.length < 64 ∧ k xs H1 Q
def kSort : List Str → Hp → VK → Prop := fun xs H Q => ∀ ys p, ys.Perm (txAll xs []) → sortedS ys = true → H p = none → Q (.ref p) (upd H p (.lst (ys.map V.str)))
def kLen : List Str → Hp → VK → Prop := fun xs H Q => Q (.int (txAll xs []).length) H
section
variable {X : Cx} {a : Expr} {ta : TE} {p p2 q pos : Pos}
theorem set_run {F : String} {pins : List (Addr × Obj)} {s : Shared} {σ : L2.St} {H : Hp} {Q : VK} {k : List Str → Hp → VK → Prop} (hc : X.calm = true) (hg2 : L2.Gl X "set") (hm2 : X.mg "set" = none) (ha : PE X a ta) (na : starEach [a] X.env = (false, eval a X.env) :: starEach [] X.env) (I : Inv X pins σ H s) (h : tSetX X.K ta k σ H Q)
    (fin : ∀ (s1 : Shared) (H1 : Hp) (S : Addr) (xs : List Str), Inv X pins σ H1 s1 → TxR X.prog X.w s1.heap S (txAll xs []) → xs.length < 64 → k xs H1 Q → wpAny (model X.prog X.w) X.A (call (.builtin F) [.ref S]) (EP X pins σ Q) X.xe s1) :
    wpAny (model X.prog X.w) X.A (eval (.Call (.Name "set" p2) [a] [] q) X.env) (fun v s1 => wpAny (model X.prog X.w) X.A (call (.builtin F) [v]) (EP X pins σ Q) X.xe s1) X.xe s := by
  refine Call_ (ld_blt I hg2 hm2 boot_set ?_)
  refine callWith_type1 (args_cons (thn (ha.run pins s σ H _ I h) fun v s1 ⟨x, H1, I1, r1, q1⟩ => args_nil ?_) na) na rfl
  obtain ⟨t, l, xs, rfl, hq, h64, kk⟩ := q1
  cases r1
  obtain ⟨its, rv, hsq⟩ := sqB_of I1 hq
  have hst : StrsAre its.toArray.toList xs := by simpa using rv.strs
  refine call_set_tx (I1.ok.hd hc) hsq hst (by show _ < 4096; omega) fun h' tk R hk => ?_
  exact fin _ H1 _ xs (I1.kept (t' := tk) hk) R h64 kk
theorem pe_sst (hc : X.calm = true) (hg : L2.Gl X "sorted") (hm : X.mg "sorted" = none) (hg2 : L2.Gl X "set") (hm2 : X.mg "set" = none) (ha : PE X a ta) (na : starEach [a] X.env = (false, eval a X.env) :: starEach [] X.env) :
    PE X (.Call (.Name "sorted" p) [.Call (.Name "set" p2) [a] [] q] [] pos) (tSetX X.K ta kSort) := by
  refine ⟨fun pins s σ H Q I h => ?_⟩
  refine Call_ (ld_blt I hg hm boot_sorted ?_)
  refine callWith_builtin1 (args_cons (thn (set_run hc hg2 hm2 ha na I h fun s1 H1 S xs I1 R h64 kk => sort_tx I1 hc R (by have := len_addAll2 xs; omega) kk) fun v s1 h1 => args_nil h1) rfl) rfl rfl
theorem pe_lns (hc : X.calm = true) (hg : L2.Gl X "len") (hm : X.mg "len" = none) (hg2 : L2.Gl X "set") (hm2 : X.mg "set" = none) (ha : PE X a ta) (na : starEach [a] X.env = (false, eval a X.env) :: starEach [] X.env) :
    PE X (.Call (.Name "len" p) [.Call (.Name "set" p2) [a] [] q] [] pos) (tSetX X.K ta kLen) := by
  refine ⟨fun pins s σ H Q I h => ?_⟩
  refine Call_ (ld_blt I hg hm boot_len ?_)
  refine callWith_builtin1 (args_cons (thn (set_run hc hg2 hm2 ha na I h fun s1 H1 S xs I1 R h64 kk => ?_) fun v s1 h1 => args_nil h1) rfl) rfl rfl
  obtain ⟨D, ho, F, _⟩ := R
  have hl := len_addAll2 xs
  refine call_len_set ho ⟨rfl, rfl, rfl⟩ rfl F.fit (by rw [F.sz]; omega) ⟨.int (txAll xs []).length, H1, I1.tok _, ⟨_, by rw [F.sz]⟩, kk⟩
end
end EV
/-! SeC: set comprehensions of several clauses. -/
namespace EV
open PySem PySem.Spec PyProof.Rows L2

section
variable {P : Program} {w : World} {A : Around} {env : Env} {elt : Expr} {gens : List Comprehension} {scope : Scope} {pos : Pos} {acc : Value}
abbrev SC (elt : Expr) (gens : List Comprehension) (scope : Scope) (pos : Pos) : Expr := .SetComp elt gens scope pos
abbrev NE (P : Program) (w : World) (A : Around) (env : Env) (R : Result → Shared → Prop) : Value → Shared → Prop := notedBy (model P w) A env fun e s' => R (.error e) s'
/-- what stands behind a clause's tests -/
def follow (elt : Expr) (gens : List Comprehension) (scope : Scope) (pos : Pos) (d : Nat) (acc : Value) (env : Env) : Sem Unit := match gens[d + 1]? with
  | some g => do
    let x ← eval g.iter env
    standAt g.iter.pos
    let x ← if g.is_async != 0 then foldedIterable g.iter x else foldedSetIterable g.iter env x
    let _ ← runOwn (.compStart (SC elt gens scope pos) (d + 1) (← holding [x] (if g.is_async != 0 then asyncIter x else pyIter x)) acc env) env
  | none => do
    let v ← eval elt env
    standAt elt.pos
    let _ ← call (.builtin "set.add") [acc, v]
theorem loopS {d : Nat} {t i : Expr} {ifs : List Expr} {it : Value} {R : Result → Shared → Prop} (hg : gens[d]? = some ⟨t, i, ifs, 0⟩) (hna : ∀ g, gens[d + 1]? = some g → g.is_async = 0) (I : Nat → Shared → Prop)
    (turn : ∀ n s, I n s → wpAny (model P w) A (pyNext it) (fun r s₁ => match r with
      | none => R (.ok .next) s₁
      | some v => wpAny (model P w) A (letOwnedTupleGo t it v) (fun _ s₂ => wpAny (model P w) A (assign t env v) (fun _ s₃ =>
          wpAny (model P w) A (forIn ifs true fun c r => if r = true then do let ok ← isTrue c env (eval c env); pure (ForInStep.yield ok) else pure (ForInStep.yield r)) (fun ok s₄ =>
            if ok = true then wpAny (model P w) A (follow elt gens scope pos d acc env) (fun _ s₅ => ∃ m, m < n ∧ I m s₅) (NE P w A env R) s₄ else ∃ m, m < n ∧ I m s₄) (NE P w A env R) s₃) (NE P w A env R) s₂) (NE P w A env R) s₁) (NE P w A env R) s)
    (n : Nat) {s : Shared} (h : I n s) : codeAny (model P w) A (.compLoop (SC elt gens scope pos) d it acc env) R s := by
  refine codeAny_loop rfl I (fun n s hI => ?_) n h
  show wpAny _ A ((compTurn (SC elt gens scope pos) d it acc env).onRaise (fun x => do noteFrame x env; theTreesLotGoes x)) _ _ s
  refine wpAny_noted ?_
  have tr := turn n s hI
  unfold follow at tr
  unfold compTurn
  dsimp only
  rw [hg]
  dsimp only
  refine wpAny_bind (wpAny_standAt (wpAny_bind (wpAny_mono tr (fun r s₁ h₁ => ?_) fun _ _ h' => h')))
  cases r with
  | none => exact wpAny_pure h₁
  | some v =>
    refine wpAny_bind (wpAny_mono h₁ (fun _ s₂ h₂ => ?_) fun _ _ h' => h')
    refine wpAny_bind (wpAny_mono h₂ (fun _ s₃ h₃ => wpAny_bind (wpAny_mono h₃ (fun ok s₄ h₄ => ?_) fun _ _ h' => h')) fun _ _ h' => h')
    cases ok with
    | false => exact wpAny_pure ⟨rfl, h₄⟩
    | true =>
      simp only [if_true] at h₄ ⊢
      cases hg1 : gens[d + 1]? with
      | none =>
        rw [hg1] at h₄
        exact wpAny_bind (wpAny_mono h₄ (fun _ s₅ h₅ => wpAny_pure ⟨rfl, h₅⟩) fun _ _ h' => h')
      | some g =>
        rw [hg1] at h₄
        have h₅ := wpAny_bind (f := fun _ => again (.compLoop (SC elt gens scope pos) d it acc env)) (wpAny_mono h₄ (fun _ s₅ h₅ => (wpAny_pure ⟨rfl, h₅⟩ : wpAny (model P w) A (again (.compLoop (SC elt gens scope pos) d it acc env)) (fun fin s' => match fin with | .done f => R (.ok f) s' | .again c' => c' = .compLoop (SC elt gens scope pos) d it acc env ∧ ∃ m, m < n ∧ I m s') (NE P w A env R) s₅)) fun _ _ h' => h')
        have ha : (g.is_async != 0) = false := by rw [hna g hg1]; rfl
        simp only [ha, Bool.false_eq_true, if_false, bind_assoc, pure_bind] at h₅ ⊢
        exact h₅
theorem startS {d : Nat} {t i : Expr} {ifs : List Expr} {it : Value} {R : Result → Shared → Prop} {s : Shared} (hg : gens[d]? = some ⟨t, i, ifs, 0⟩) (h0 : codeAny (model P w) A (.compLoop (SC elt gens scope pos) d it acc env) R s)
    (h : wpAny (model P w) A (pyIter it) (fun it' s' => codeAny (model P w) A (.compLoop (SC elt gens scope pos) d it' acc env) R s') (NE P w A env R) s) : codeAny (model P w) A (.compStart (SC elt gens scope pos) d it acc env) R s := by
  refine codeAny_of_tree ?_
  show wpAny _ _ ((compStart (SC elt gens scope pos) d it acc env).onRaise (fun x => do noteFrame x env; standAt theWindowsPlace)) _ _ s
  refine wpAny_notedAt ?_
  have hcl : (clausesOf (SC elt gens scope pos))[d]? = some ⟨t, i, ifs, 0⟩ := hg
  unfold compStart
  rw [hcl]
  simp only [Option.elim_some, bne_self_eq_false, Bool.false_eq_true, if_false]
  refine wpAny_bind (wpAny_askSetting (wpAny_ite ?_))
  split
  · first
      | exact wpAny_bind (wpAny_pure (wpAny_pure (And.intro rfl h0)))
      | exact wpAny_pure (And.intro rfl h0)
  · refine wpAny_bind (wpAny_rule (wpAny_bind (wpAny_standAt (wpAny_bind (wpAny_mono h (fun it' s' h' => wpAny_pure (And.intro rfl h')) fun _ _ x => x)))))
end

/-! ### clauses -/
structure Cs where
  tg : Expr
  iter : Expr
  ifs : List Expr
  wi : TI
  g : TG
  tt : TT
  vs : List Nat
def Cs.gen (c : Cs) : Comprehension := ⟨c.tg, c.iter, c.ifs, 0⟩
abbrev TPut := L2.St → Hp → (Hp → Prop) → Prop
/-- the loop of an iterator that has come -/
def tLoop (c : Cs) (k : L2.St → Hp → (Hp → Prop) → Prop) (σ : L2.St) (J : L2.It) (Nx H0 : Hp → Prop) : Prop :=
  ∃ W : Nat → Nat → Hp → Prop, (∀ H, H0 H → ∃ m, W 0 m H) ∧ ∀ i m H, W i m H → (J.stop i H ∧ Nx H) ∨ (J.go i H ∧ ∃ N1 : Hp → Prop, (∀ H', N1 H' → ∃ m', m' < m ∧ W (i + 1) m' H') ∧ ∀ x H', J.yld i H x H' →
    c.g x (wipe σ c.vs) H' fun σ2 H2 => wipe σ2 c.vs = wipe σ c.vs ∧ c.tt σ2 H2 fun b H3 => if b = true then k σ2 H3 N1 else N1 H3)
/-- the clauses behind the first one -/
def tIn : List Cs → TPut → TPut
  | [], te, σ, H, Nx => te σ H Nx
  | c :: r, te, σ, H, Nx => c.wi σ H fun J H1 => tLoop c (fun σ2 H3 N1 => tIn r te σ2 H3 N1) σ J Nx fun H => H = H1
structure CsOk (Y : Cx) (c : Cs) : Prop where
  it : PI Y c.tg c.iter c.wi
  tg : PG Y c.tg c.g
  ts : PTs Y c.ifs c.tt
  fold : ∀ env x, foldedSetIterable c.iter env x = pure x
/-- the slots that are kept -/
def Wk (own : List Nat) (σ σ' : L2.St) : Prop := σ'.length = σ.length ∧ ∀ (j : Nat) v, j ∉ own → σ[j]? = some (some v) → σ'[j]? = some (some v)
section
variable {Y : Cx} {elt : Expr} {gens : List Comprehension} {scope : Scope} {pos : Pos} {D : Addr} {te : TPut}
/-- the element put -/
def PutOk (Y : Cx) (elt : Expr) (D : Addr) (te : TPut) : Prop := ∀ (pins : List (Addr × Obj)) (σ : L2.St) (H : Hp) (s : Shared) (Nx : Hp → Prop), Inv Y pins σ H s → te σ H Nx →
  wpAny (model Y.prog Y.w) Y.A (eval elt Y.env) (fun v s1 => wpAny (model Y.prog Y.w) Y.A (call (.builtin "set.add") [.ref D, v]) (fun _ s2 => ∃ H', Inv Y pins σ H' s2 ∧ Nx H') (fun _ _ => False) s1) (fun _ _ => False) s
/-- all slots of the clauses from here on -/
def csVs : List Cs → List Nat
  | [] => []
  | c :: _ => c.vs
/-- each clause's slots hold those of the clauses behind it -/
def csDeep : List Cs → Prop
  | [] => True
  | c :: r => (∀ j ∈ csVs r, j ∈ c.vs) ∧ csDeep r
theorem follow_ok (hc : Y.calm = true) (hxe : Y.xe = fun _ _ => False) (hp : PutOk Y elt D te) : ∀ (cs : List Cs) (d : Nat), gens.drop (d + 1) = cs.map Cs.gen → (∀ c ∈ cs, CsOk Y c) → csDeep cs → ∀ (pins : List (Addr × Obj)) (σ : L2.St) (H : Hp) (s : Shared) (Nx : Hp → Prop), Inv Y pins σ H s → tIn cs te σ H Nx →
    wpAny (model Y.prog Y.w) Y.A (follow elt gens scope pos d (.ref D) Y.env) (fun _ s' => ∃ σ' H', Inv Y pins σ' H' s' ∧ Wk (csVs cs) σ σ' ∧ Nx H') (fun _ _ => False) s
  | [], d, hg, hok, hdp, pins, σ, H, s, Nx, I, h => by
    have h0 : gens[d + 1]? = none := by
      have := congrArg List.length hg
      rw [List.length_drop] at this
      exact List.getElem?_eq_none (by simpa using Nat.le_of_sub_eq_zero this)
    unfold follow
    rw [h0]
    refine wpAny_bind (thnF (hp pins σ H s Nx I h) fun v s1 h1 => wpAny_bind (wpAny_standAt (wpAny_bind (thnF h1 fun _ s2 ⟨H', I2, nx⟩ => wpAny_pure ⟨σ, H', I2, ⟨rfl, fun _ _ _ e => e⟩, nx⟩))))
  | c :: r, d, hg, hok, hdp, pins, σ, H, s, Nx, I, h => by
    have hcs := hok c List.mem_cons_self
    obtain ⟨hd1, hd2⟩ := hdp
    have hl : gens[d + 1]? = some c.gen := by
      have := congrArg (fun l => l[0]?) hg
      simpa [List.getElem?_drop] using this
    have hdr : gens.drop (d + 1 + 1) = r.map Cs.gen := by
      have := congrArg List.tail hg
      rw [List.tail_drop] at this
      simpa using this
    unfold follow
    rw [hl]
    have hna : ∀ g, gens[d + 1 + 1]? = some g → g.is_async = 0 := fun g hg2 => by
      have : (r.map Cs.gen)[0]? = some g := by
        rw [← hdr]
        simpa [List.getElem?_drop] using hg2
      cases r with
      | nil => cases this
      | cons c2 r2 =>
        cases this
        rfl
    have hi := hcs.it.run pins s σ H _ I h
    rw [hxe] at hi
    refine wpAny_bind (thnF hi fun xv s1 hx => wpAny_bind (wpAny_standAt ?_))
    have ha : (c.gen.is_async != 0) = false := rfl
    simp only [ha, Bool.false_eq_true, if_false]
    refine wpAny_bind (wpAny_of_eq (hcs.fold _ xv) (wpAny_bind (wpAny_holding (thnF hx fun itv s2 h2 => ?_))))
    obtain ⟨it, fp, tn, J, H2, e1, I2, T, st2, f2, W, hW0, turn⟩ := h2
    subst e1
    obtain ⟨m0, w0⟩ := hW0 H2 rfl
    have stat : ∀ {H' : Hp}, (∀ b ∈ fp, H' b = none) → ∀ b ∈ fp, FpOk Y pins H' b := fun hn b hb => ⟨hn b hb, (f2 b hb).2⟩
    refine wpAny_bind (wpAny_runOwn ?_)
    rw [Around.mark_none]
    have loop : codeAny (model Y.prog Y.w) Y.A (.compLoop (SC elt gens scope pos) (d + 1) (.ref it) (.ref D) Y.env) (fun r s' => match r with
        | .ok _ => ∃ σ' H', Inv Y pins σ' H' s' ∧ Wk c.vs σ σ' ∧ Nx H'
        | .error _ => False) s2 := by
      refine loopS hl hna (fun k s' => ∃ j H', Inv Y pins (wipe σ c.vs) H' s' ∧ tn j s'.heap ∧ (∀ b ∈ fp, H' b = none) ∧ W j k H') ?_ m0 ⟨0, H2, I2.weak (wipe_length _ _) (fun j v e => (wipe_some e).1), st2, fun b hb => (f2 b hb).1, w0⟩
      rintro k s3 ⟨j, H3, I3, st3, n3, w3⟩
      rcases turn j k H3 w3 with ⟨stop, nx⟩ | ⟨go, N1, hN1, step⟩
      · refine thnF (T.done Y rfl rfl rfl hc j _ s3 (wipe σ c.vs) H3 (fun _ _ => False) I3 (stat n3) st3 stop) fun r s4 ⟨hr, I4⟩ => ?_
        subst hr
        exact ⟨_, H3, I4, ⟨wipe_length _ _, fun j v hj e => (wipe_out hj).trans e⟩, nx⟩
      · refine thnF (T.item Y rfl rfl rfl hc j _ s3 (wipe σ c.vs) H3 (fun _ _ => False) I3 (stat n3) st3 go) fun r s4 ⟨u, hr, h4⟩ => ?_
        subst hr
        refine thnF h4 fun _ s5 ⟨x, H5, I5, r5, y5, st5, n5⟩ => ?_
        have I5' := I5.pinned (stat n5) (T.obj _ _ st5)
        have hg' := hcs.tg.run _ s5 (wipe σ c.vs) H5 x u _ I5' r5 (step x H5 y5)
        rw [hxe] at hg'
        refine thnF hg' fun _ s6 ⟨σ6, H6, I6, hw6, q6⟩ => ?_
        have ht' := hcs.ts.run _ s6 σ6 H6 _ I6 q6
        rw [hxe] at ht'
        refine thnF ht' fun b s7 ⟨H7, I7, q7⟩ => ?_
        have fin : ∀ {s' : Shared} {H' : Hp} {σ' : L2.St}, Inv Y (pins ++ pinsAt fp s5.heap) σ' H' s' → Wk (csVs r) σ6 σ' → N1 H' → ∃ m, m < k ∧ ∃ j H', Inv Y pins (wipe σ c.vs) H' s' ∧ tn j s'.heap ∧ (∀ b ∈ fp, H' b = none) ∧ W j m H' := fun {s' H' σ'} I' wk nx => by
          obtain ⟨m', hm, w'⟩ := hN1 H' nx
          have pin' : ∀ b ∈ fp, ∀ o, s5.heap.get? b = some o → s'.heap.get? b = some o ∧ H' b = none := fun b hb o e =>
            let z := I'.pin (b, o) (List.mem_append_right _ (List.mem_append_right _ (mem_pinsAt hb e)))
            ⟨z.1, z.2.1⟩
          refine ⟨m', hm, j + 1, H', I'.unpinned.weak (by rw [← hw6, wipe_length, wk.1]) (fun i v e => ?_), T.keep _ _ _ st5 fun b hb o e => (pin' b hb o e).1, fun b hb => ?_, w'⟩
          · rw [← hw6] at e
            obtain ⟨e1, e2⟩ := wipe_some e
            exact wk.2 i v (fun z => e2 (hd1 i z)) e1
          · obtain ⟨o, e, _⟩ := T.obj _ _ st5 b hb
            exact (pin' b hb o e).2
        cases b with
        | false =>
          simp only [Bool.false_eq_true, if_false] at q7 ⊢
          exact fin I7 ⟨rfl, fun _ _ _ e => e⟩ q7
        | true =>
          simp only [if_true] at q7 ⊢
          exact thnF (follow_ok hc hxe hp r (d + 1) hdr (fun c' hc' => hok c' (List.mem_cons_of_mem _ hc')) hd2 _ σ6 H7 s7 N1 I7 q7) fun _ s8 ⟨σ8, H8, I8, wk8, nx8⟩ => fin I8 wk8 nx8
    refine codeAny_mono (startS hl loop (T.self Y.A 0 _ _ _ st2 loop)) fun r s' hr => ?_
    cases r with
    | ok f => exact wpAny_bind (wpAny_pure (wpAny_pure hr))
    | error e => exact hr.elim
end

/-! ### the whole comprehension -/
def tScn (P : Program) (w : World) (c : Cs) (r : List Cs) (te : Addr → TPut) : TE := fun σ H Q => c.wi σ H fun J H1 => ∀ D, H1 D = none → tLoop c (fun σ2 H3 N1 => tIn r (te D) σ2 H3 N1) σ J (fun H => Q (.ref D) H) (fun H => H = upd H1 D (SetTx P w D []))
section
variable {X : Cx}
theorem scn_core {pins : List (Addr × Obj)} {s : Shared} {σ : L2.St} {H : Hp} {Q : VK} {elt : Expr} {c : Cs} {r : List Cs} {scope : Scope} {own : List (Str × Nat)} {pos pos' : Pos} {te : Addr → TPut} {Qf : Value → Shared → Prop} (hc : X.calm = true) (hN : X.N.Nodup) (I : Inv X pins σ H s) (hi : PI X c.tg c.iter c.wi) (ok : BlkOk X.N X.env.scope scope own) (hv : c.vs = own.map (·.2))
    (hg : ∀ s H C clo fp, PG (Blk X scope s H C clo fp) c.tg c.g) (ht : ∀ s H C clo fp, PTs (Blk X scope s H C clo fp) c.ifs c.tt) (hr : ∀ s H C clo fp, ∀ c' ∈ r, CsOk (Blk X scope s H C clo fp) c') (hdp : csDeep (c :: r)) (hp : ∀ s H C clo fp D, PutOk (Blk X scope s H C clo fp) elt D (te D)) (hs : ∀ x, foldedSetIterable c.iter X.env x = pure x)
    (h : tScn X.prog X.w c r te σ H Q)
    (hRR : ∀ D C s' m H', Inv X pins σ H' s' → Q (.ref D) H' → s'.heap.Ns C m → FpOk X pins H' C → compPost (model X.prog X.w) X.A X.xe none Qf (.ref D) C (.ok .next) s') :
    wpAny (model X.prog X.w) X.A (comprehension (SC elt (c.gen :: r.map Cs.gen) scope pos) scope X.env pos' (newSet (.type "set")) false (eval c.iter X.env) none) Qf X.xe s := by
  have hfree : ∀ y ∈ scope.names, y.2 = .free → ∃ a, X.env.cells.lookup y.1 = some a := fun y hy e => by
    rcases ok.free y hy e with k | k
    · exact I.ok.has _ (.inl k)
    · exact I.ok.has _ (.inr k)
  refine wpAny_comprehension_free (use := none) rfl hs (closure_ok hfree) ok.kind (fun y hy e => by rw [ok.uniq y hy, e]) (thn (hi.run pins s σ H _ I h) fun xv s1 hx => thn hx fun itv s2 h2 => ?_)
  obtain ⟨it, fp, tn, J, H2, e, I2, T, st2, f2, q⟩ := h2
  subst e
  refine PpSet.newSet_ok (newEnv_comp ?_)
  generalize hD : s2.heap.objs.size = D
  have hDn : H2 D = none := I2.hok.fresh (Nat.le_of_eq hD)
  obtain ⟨W, hW0, turn⟩ := q D hDn
  obtain ⟨m0, w0⟩ := hW0 _ rfl
  generalize hs3 : ({ s2 with heap := s2.heap.push { cls := .type "set", dict := none, data := .set #[] 0 (.fresh 0 0 (!X.w.params.followText "set-order")) } } : Shared) = s3
  have h3 : s3.heap = s2.heap.push { cls := .type "set", dict := none, data := .set #[] 0 (.fresh 0 0 (!X.w.params.followText "set-order")) } := by rw [← hs3]
  have I3 : Inv X pins σ (upd H2 D (SetTx X.prog X.w D [])) s3 := by
    rw [← hs3]
    refine I2.laid (t' := s2.toks) (fun b o e => Heap.get?_push_of_some _ e) (Nat.le_of_eq hD) (setTx_new (txR_fresh ?_))
    rw [← hD]
    exact Heap.get?_push_size _ rfl
  have sz : ∀ b ∈ fp, b < s2.heap.objs.size := fun b hb => by
    obtain ⟨o, e, _⟩ := T.obj _ _ st2 b hb
    exact Heap.lt_size e
  have f3 : ∀ b ∈ fp, FpOk X pins (upd H2 D (SetTx X.prog X.w D [])) b ∧ b < s3.heap.objs.size := fun b hb => by
    have hlt := sz b hb
    refine ⟨⟨?_, (f2 b hb).2⟩, by rw [h3, Heap.size_push]; exact Nat.lt_succ_of_lt hlt⟩
    rw [upd_ne (by rw [← hD]; exact Nat.ne_of_lt hlt)]
    exact (f2 b hb).1
  have st3 : tn 0 s3.heap := T.keep _ _ _ st2 fun b _ o e => by
    rw [h3]
    exact Heap.get?_push_of_some _ e
  have I4 := block_start I3 ok hN f3
  let clo := cellsFrom (s3.heap.objs.size + 1) scope.names (cloFrom X.env.cells scope.names [])
  let H3 := upd H2 D (SetTx X.prog X.w D [])
  have pg := hg s3 H3 s3.heap.objs.size clo fp
  have pt := ht s3 H3 s3.heap.objs.size clo fp
  have pr := hr s3 H3 s3.heap.objs.size clo fp
  have pp := hp s3 H3 s3.heap.objs.size clo fp D
  have nfp : ∀ b ∈ fp, H3 b = none := fun b hb => (f3 b hb).1.1
  let Y : Cx := Blk X scope s3 H3 s3.heap.objs.size clo fp
  have cL : Y.env.locals = s3.heap.objs.size := rfl
  generalize hs4 : ({ s3 with heap := pushCells (s3.heap.push { cls := .type "dict", data := .dict #[] }) scope.names } : Shared) = s4 at I4 ⊢
  have I4 : Inv Y [] (wipe σ (own.map (·.2))) H3 s4 := I4
  rw [← hv] at I4
  have st4 : tn 0 s4.heap := T.keep _ _ _ st3 fun b _ o e => by
    rw [← hs4]
    exact pushCells_keeps _ _ _ _ (Heap.get?_push_of_some _ e)
  have stat : ∀ {σ' : L2.St} {H' : Hp} {s' : Shared}, Inv Y [] σ' H' s' → (∀ b ∈ fp, H' b = none) → ∀ b ∈ fp, FpOk Y [] H' b := fun {σ' H' s'} I' hn b hb =>
    ⟨hn b hb, (I'.ok.exf b hb).1, I'.ok.exfs b hb, .inl hb, fun x c e => (I'.ok.exf b hb).2 x c e, fun p hp => absurd (show p ∈ ([] : List (Addr × Obj)) ++ [] from hp) (by simp)⟩
  have hna : ∀ g, (c.gen :: r.map Cs.gen)[0 + 1]? = some g → g.is_async = 0 := fun g hg2 => by
    cases r with
    | nil => cases hg2
    | cons c2 r2 =>
      cases hg2
      rfl
  obtain ⟨hd1, hd2⟩ := hdp
  have loop : codeAny (model Y.prog Y.w) Y.A (.compLoop (SC elt (c.gen :: r.map Cs.gen) scope pos) 0 (.ref it) (.ref D) Y.env) (compPost (model X.prog X.w) X.A X.xe none Qf (.ref D) s3.heap.objs.size) s4 := by
    refine loopS (t := c.tg) (i := c.iter) (ifs := c.ifs) rfl hna (fun n s' => ∃ i H', Inv Y [] (wipe σ c.vs) H' s' ∧ tn i s'.heap ∧ (∀ b ∈ fp, H' b = none) ∧ W i n H') ?_ m0 ⟨0, H3, I4, st4, nfp, w0⟩
    rintro n s5 ⟨i, H5, I5, st5, n5, w5⟩
    rcases turn i n H5 w5 with ⟨stop, qq⟩ | ⟨go, Nx, hNx, step⟩
    · refine thnF (T.done Y rfl rfl rfl hc i [] s5 _ H5 (fun _ _ => False) I5 (stat I5 n5) st5 stop) fun r s6 ⟨hr, I6⟩ => ?_
      subst hr
      have I7 : Inv X pins σ H5 s6 := I3.call' (ch := fp) I6.os I6.base I6.hok I6.bare fun b hb => ⟨(f3 b hb).1.2.2.2.1, (f3 b hb).1.2.1, (f3 b hb).1.2.2.2.2.1, (f3 b hb).1.2.2.2.2.2⟩
      have nC : H5 s3.heap.objs.size = none := I6.free
      obtain ⟨m, hn, _⟩ := I6.loc
      exact hRR D s3.heap.objs.size s6 m H5 I7 qq hn (I3.fpOk (Nat.le_refl _) nC)
    · refine thnF (T.item Y rfl rfl rfl hc i [] s5 _ H5 (fun _ _ => False) I5 (stat I5 n5) st5 go) fun r s6 ⟨u, hr, h6⟩ => ?_
      subst hr
      refine thnF h6 fun _ s7 ⟨x, H7, I7, r7, y7, st7, n7⟩ => ?_
      have I7' := I7.pinned (stat I7 n7) (T.obj _ _ st7)
      refine thnF (pg.run _ s7 _ H7 x u _ I7' r7 (step x H7 y7)) fun _ s8 ⟨σ8, H8, I8, hw8, q8⟩ => ?_
      refine thnF (pt.run _ s8 σ8 H8 _ I8 q8) fun b s9 ⟨H9, I9, q9⟩ => ?_
      have fin : ∀ {s' : Shared} {H' : Hp} {σ' : L2.St}, Inv Y ([] ++ pinsAt fp s7.heap) σ' H' s' → Wk (csVs r) σ8 σ' → Nx H' → ∃ m, m < n ∧ ∃ i H', Inv Y [] (wipe σ c.vs) H' s' ∧ tn i s'.heap ∧ (∀ b ∈ fp, H' b = none) ∧ W i m H' := fun {s' H' σ'} I' wk nx => by
        obtain ⟨m', hm, w'⟩ := hNx H' nx
        have pin' : ∀ b ∈ fp, ∀ o, s7.heap.get? b = some o → s'.heap.get? b = some o ∧ H' b = none := fun b hb o e =>
          let z := I'.pin (b, o) (List.mem_append_right _ (List.mem_append_right _ (mem_pinsAt hb e)))
          ⟨z.1, z.2.1⟩
        refine ⟨m', hm, i + 1, H', (I'.unpinned (pins := [])).weak (by rw [← hw8, wipe_length, wk.1]) (fun j v e => ?_), T.keep _ _ _ st7 fun b hb o e => (pin' b hb o e).1, fun b hb => ?_, w'⟩
        · rw [← hw8] at e
          obtain ⟨e1, e2⟩ := wipe_some e
          exact wk.2 j v (fun z => e2 (hd1 j z)) e1
        · obtain ⟨o, e, _⟩ := T.obj _ _ st7 b hb
          exact (pin' b hb o e).2
      cases b with
      | false =>
        simp only [Bool.false_eq_true, if_false] at q9 ⊢
        exact fin I9 ⟨rfl, fun _ _ _ e => e⟩ q9
      | true =>
        simp only [if_true] at q9 ⊢
        exact thnF (follow_ok (Y := Y) hc rfl pp r 0 rfl pr hd2 _ σ8 H9 s9 Nx I9 q9) fun _ s10 ⟨σ10, H10, I10, wk10, nx10⟩ => fin I10 wk10 nx10
  exact startS (t := c.tg) (i := c.iter) (ifs := c.ifs) rfl loop (T.self X.A 0 _ _ _ st4 loop)
end
end EV
/-! SeD: sorted({..}), sorted(set(..)), len(set(..)) by the evaluator. -/
namespace EV
open PySem PySem.Spec PyProof.Rows L2

section
variable {P : Program} {w : World} {A : Around} {E : Value → Shared → Prop} {s : Shared}
theorem sadd_tx {a : Addr} {l : List Str} {k : Str} {u : Tok} {Q : Value → Shared → Prop} (R : TxR P w s.heap a l) (hb : l.length + 1 < scanBound) (h : ∀ h', TxR P w h' a (addL l k) → Heap.SameBut a s.heap h' → Q .none { s with heap := h', toks := s.toks + 1 }) :
    wpAny (model P w) A (call (.builtin "set.add") [.ref a, .str k u]) Q E s := by
  have hT : s.TypeIs (.ref a) "set" := by
    obtain ⟨D, ho, _⟩ := R
    exact ⟨_, ho, rfl⟩
  refine wpAny_call_entry F.slot_set_add hT F.entry_set_add ?_ (F.args_set_add_2 _ _)
  unfold Builtin.«set.add» Builtin.Frozenset.oneOther
  simp only [List.isEmpty_nil, bind_assoc]
  unfold Builtin.Frozenset.addrOf setAdd
  refine wpAny_bind (wpAny_pure ?_)
  try dsimp only
  refine wpAny_bind (wpAny_pure ?_)
  try dsimp only
  refine wpAny_bind (wpAny_holding (wpAny_bind (wpAny_pyHash_str ?_)))
  refine add_tx (s := { s with toks := s.toks + 1 }) R hb fun b h' r sb => ?_
  show wpAny _ _ (ret Value.none) _ _ _
  exact wpAny_pure ⟨_, rfl, h h' r sb⟩
end
def tPut (P : Program) (w : World) (el : TE) (D : Addr) : TPut := fun σ H Nx => el σ H fun y H4 => ∃ x l, y = V.str x ∧ H4 D = some (SetTx P w D l) ∧ l.length + 1 < scanBound ∧ Nx (upd H4 D (SetTx P w D (addL l x)))
theorem put_tx {Y : Cx} {elt : Expr} {el : TE} {D : Addr} (hxe : Y.xe = fun _ _ => False) (he : PE Y elt el) : PutOk Y elt D (tPut Y.prog Y.w el D) := fun pins σ H s Nx I h => by
  have hr := he.run pins s σ H _ I h
  rw [hxe] at hr
  refine thnF hr fun v s1 ⟨y, H1, I1, r1, x, l, ey, hD, hb, nx⟩ => ?_
  subst ey
  obtain ⟨u, rfl⟩ := r1
  refine sadd_tx (setTx_get I1 hD) hb fun h' R sb => ⟨_, ?_, nx⟩
  obtain ⟨D', ho', r'⟩ := id R
  exact I1.write (t' := s1.toks + 1) (x := D) (e := D) (by rw [hD]; exact True.intro) (.inl rfl) (fun b q hb z => (sb.2 b hb).trans z) ⟨_, ho'⟩ (setTx_new R)
def tSscX (P : Program) (w : World) (c : Cs) (r : List Cs) (el : TE) : TE := fun σ H Q => tScn P w c r (tPut P w el) σ H fun x H1 => ∃ D l, x = V.ref D ∧ H1 D = some (SetTx P w D l) ∧ l.length < 64 ∧ ∀ ys p, ys.Perm l → sortedS ys = true → H1 p = none → Q (.ref p) (upd H1 p (.lst (ys.map V.str)))
section
variable {X : Cx}
theorem pe_ssc {elt : Expr} {c : Cs} {r : List Cs} {scope : Scope} {own : List (Str × Nat)} {p p2 pos : Pos} {el : TE} (hg0 : L2.Gl X "sorted") (hm0 : X.mg "sorted" = none) (hc : X.calm = true) (hN : X.N.Nodup) (hi : PI X c.tg c.iter c.wi) (ok : BlkOk X.N X.env.scope scope own) (hv : c.vs = own.map (·.2))
    (hg : ∀ s H C clo fp, PG (Blk X scope s H C clo fp) c.tg c.g) (ht : ∀ s H C clo fp, PTs (Blk X scope s H C clo fp) c.ifs c.tt) (hr : ∀ s H C clo fp, ∀ c' ∈ r, CsOk (Blk X scope s H C clo fp) c') (hdp : csDeep (c :: r)) (he : ∀ s H C clo fp, PE (Blk X scope s H C clo fp) elt el) (hs : ∀ x, foldedSetIterable c.iter X.env x = pure x) :
    PE X (.Call (.Name "sorted" p) [SC elt (c.gen :: r.map Cs.gen) scope p2] [] pos) (tSscX X.prog X.w c r el) := by
  refine ⟨fun pins s σ H Q I h => ?_⟩
  refine Call_ (ld_blt I hg0 hm0 boot_sorted ?_)
  refine callWith_builtin1 (args_cons ?_ rfl) rfl rfl
  rw [arm_eval_SetComp]
  refine scn_core hc hN I hi ok hv hg ht hr hdp (fun s H C clo fp D => put_tx rfl (he s H C clo fp)) hs h fun D C s' m H' I' q hn f => ⟨m, hn, fun h'' sb => ?_⟩
  obtain ⟨D', l, ex, hD, h64, qq⟩ := q
  cases ex
  obtain ⟨f0, f1, f2, f3, f4, f5⟩ := f
  have I2 := I'.turned (t' := s'.toks) (fun b o hb e => (sb.2 b hb).trans e) f0 f1 f3 f4 f5
  exact args_nil (sort_tx I2 hc (setTx_get I2 hD) h64 qq)
end

/-! ### the evaluator's run -/
/-- a later world, but for what is made at D -/
structure lxD (D : Addr) (w w' : Wd) : Prop where
  r : w.ler w'
  A : ∀ p o, p ≠ D → w.A p = some o → w'.A p = some o
theorem lxD.of {D : Addr} {w w' : Wd} (l : w.le w') : lxD D w w' := ⟨l.r, fun p o _ e => l.A p o e⟩
theorem lxD.trans {D : Addr} {a b c : Wd} (h : lxD D a b) (g : lxD D b c) : lxD D a c := ⟨h.r.trans g.r, fun p o n e => g.A p o n (h.A p o n e)⟩
theorem lxD.with_ {D : Addr} {w : Wd} {o : Option HO} : lxD D w (w.withA D o) := ⟨⟨Nat.le_refl _, fun _ _ => rfl, fun _ _ e => e, rfl⟩, fun p u n e => (withA_ne n).trans e⟩
theorem SRel.monr {K : Fg} {w w' : Wd} {s : LSt} {σ : L2.St} (l : w.ler w') (h : SRel K w s σ) : SRel K w' s σ := ⟨h.len, fun i v e => by
  obtain ⟨x, h1, h2⟩ := h.at_ i v e
  exact ⟨x, h1, h2.monr l⟩⟩
/-- what was made so far stands in the set -/
def AccL (acc : List Val) (l : List Str) : Prop := ∃ ss, strsOf acc = some ss ∧ l = txAll (ss.map tS) []
theorem strsOf_len : ∀ {xs : List Val} {ss : List (List Nat)}, strsOf xs = some ss → ss.length = xs.length
  | [], ss, h => by
    cases h
    rfl
  | x :: xs, ss, h => by
    cases x with
    | str z =>
      unfold strsOf at h
      cases e : strsOf xs with
      | none => rw [e] at h; cases h
      | some us =>
        rw [e] at h
        cases h
        exact congrArg (· + 1) (strsOf_len e)
    | _ => cases h
theorem strsOf_snoc {z : List Nat} : ∀ {xs : List Val} {ss : List (List Nat)}, strsOf xs = some ss → strsOf (xs ++ [.str z]) = some (ss ++ [z])
  | [], ss, h => by
    cases h
    rfl
  | x :: xs, ss, h => by
    cases x with
    | str y =>
      unfold strsOf at h
      cases e : strsOf xs with
      | none => rw [e] at h; cases h
      | some us =>
        rw [e] at h
        cases h
        show (strsOf (xs ++ [.str z])).map (y :: ·) = _
        rw [strsOf_snoc e]
        rfl
    | _ => cases h
theorem accL_len {acc : List Val} {l : List Str} (h : AccL acc l) : l.length ≤ acc.length := by
  obtain ⟨ss, h1, rfl⟩ := h
  have := len_addAll2 (ss.map tS)
  rw [List.length_map, strsOf_len h1] at this
  exact this
theorem accL_snoc {acc : List Val} {l : List Str} {z : List Nat} (h : AccL acc l) : AccL (acc ++ [.str z]) (addL l (tS z)) := by
  obtain ⟨ss, h1, rfl⟩ := h
  refine ⟨ss ++ [z], strsOf_snoc h1, ?_⟩
  unfold txAll
  rw [List.map_append, List.foldl_append]
  rfl
section
variable {X : Cx} {Bs : BX} {G : Gl} {cl : CallF} {base : Nat} {D : Addr}
/-- what a body does to what is made -/
def BodyOk (X : Cx) (Bs : BX) (D : Addr) (kk : LSt → List Val → Cells → R (List Val)) (K : TPut) : Prop := ∀ (w : Wd) (s : LSt) (σ : L2.St) (cs : Cells) (H : Hp) (acc : List Val) (l : List Str) (P : List Val → Cells → Prop) (Nx : Hp → Prop), SRel X.K w s σ → HRel X.K w Bs cs H → w.A D = some (SetTx X.prog X.w D l) → AccL acc l → Quiet P (kk s acc cs) →
  (∀ w' acc' l' cs' H', lxD D w w' → HRel X.K w' Bs cs' H' → w'.A D = some (SetTx X.prog X.w D l') → AccL acc' l' → P acc' cs' → Nx H') → K σ H Nx
/-- the element -/
def elStr (G : Gl) (cl : CallF) (base : Nat) (el : E) (s : LSt) (acc : List Val) (cs : Cells) : R (List Val) := (evE G cl base el s cs).bind fun v cs => R.iff (isStrV v && Nat.blt acc.length 4000) (.ok (acc ++ [v]) cs)
theorem el_body {el : E} : BodyOk X Bs D (elStr G cl base el) (tPut X.prog X.w (T X.K Bs (rV X.K) WF (evE G cl base el)) D) := fun w s σ cs H acc l P Nx hs hh hA hacc hq hfin => by
  obtain ⟨v, cs1, ev, q1⟩ := quiet_bind hq
  refine ⟨w, s, cs, hs, hh, ?_⟩
  rw [ev]
  intro w5 y5 H5 l5 hh5 r5
  have hA5 := l5.A _ _ hA
  obtain ⟨e1, e2, e3⟩ := hh5.ac D _ hA5
  cases hb : (isStrV v && Nat.blt acc.length 4000) with
  | false => rw [hb] at q1; exact q1.elim
  | true =>
    rw [hb] at q1
    obtain ⟨hv, hl⟩ := and2 hb
    have hl : acc.length < 4000 := Nat.le_of_ble_eq_true hl
    have hal := accL_len hacc
    cases r5 with
    | str z => exact ⟨tS z, l, rfl, e1, by show _ < 4096; omega, hfin (w5.withA D (some (SetTx X.prog X.w D (addL l (tS z))))) _ _ cs1 _ ((lxD.of l5).trans lxD.with_) (hh5.setA hA5 rfl) withA_at (accL_snoc hacc) q1⟩
    | _ => cases hv
theorem loop_body {c : Cs} {t : Tg} {o : Oe} {K : TPut} {kk : LSt → List Val → Cells → R (List Val)} (hk : BodyOk X Bs D kk K) (hcg : c.g = gTg X Bs t) (hct : c.tt = oTst X.K Bs G cl base o) (hts : ∀ i ∈ t.slots, i ∈ c.vs) {src : Src} {w1 : Wd} {J : L2.It} (hJ : Walks X Bs w1 src J) {s : LSt} {σ : L2.St} {cs0 : Cells} {H0 : Hp} {acc0 : List Val} {l0 : List Str} {P : List Val → Cells → Prop} {Nx : Hp → Prop} {w2 : Wd}
    (l12 : lxD D w1 w2) (hs : SRel X.K w2 s σ) (hh : HRel X.K w2 Bs cs0 H0) (hA : w2.A D = some (SetTx X.prog X.w D l0)) (hacc : AccL acc0 l0) (hq : Quiet P (loopC src (fun v cs => setT cs t v (wipeS s c.vs)) (fun s acc cs => oRun G cl base o s acc cs fun cs => kk s acc cs) src.xs.length 0 acc0 cs0))
    (hfin : ∀ w' acc' l' cs' H', lxD D w2 w' → HRel X.K w' Bs cs' H' → w'.A D = some (SetTx X.prog X.w D l') → AccL acc' l' → P acc' cs' → Nx H') : tLoop c K σ J Nx (fun H => H = H0) := by
  let body : LSt → List Val → Cells → R (List Val) := fun s acc cs => oRun G cl base o s acc cs fun cs => kk s acc cs
  let lp : Nat → Nat → List Val → Cells → R (List Val) := fun m i acc cs => loopC src (fun v cs => setT cs t v (wipeS s c.vs)) body m i acc cs
  refine ⟨fun i m H => m + i = src.xs.length ∧ ∃ w acc l cs, lxD D w2 w ∧ w.A D = some (SetTx X.prog X.w D l) ∧ AccL acc l ∧ SRel X.K w (wipeS s c.vs) (wipe σ c.vs) ∧ HRel X.K w Bs cs H ∧ Quiet P (lp m i acc cs), fun H e => ⟨src.xs.length, rfl, w2, acc0, l0, cs0, ⟨⟨Nat.le_refl _, fun _ _ => rfl, fun _ _ e => e, rfl⟩, fun _ _ _ e => e⟩, hA, hacc, hs.wipe _, by rw [e]; exact hh, hq⟩, ?_⟩
  rintro i m H ⟨hm, w, acc, l, cs, lw, hA, hacc, hs', hh, q⟩
  cases m with
  | zero =>
    obtain ⟨⟨zs, en⟩, p⟩ := loopC_end q
    have hst := hJ.stop w cs H zs (l12.trans lw).r hh en
    rw [← hm, Nat.zero_add] at hst
    exact .inl ⟨hst, hfin w acc l cs H lw hh hA hacc p⟩
  | succ m =>
    refine .inr ?_
    obtain ⟨v, s', ea, es, q2⟩ := loopC_turn q
    obtain ⟨hgo, hy⟩ := hJ.go i w cs H v (l12.trans lw).r hh ea
    refine ⟨hgo, _, fun H' q => ⟨m, Nat.lt_succ_self _, q⟩, fun x H' y => ?_⟩
    obtain ⟨w3, l3, hh3, r3⟩ := hy x H' y
    rw [hcg, hct]
    refine ⟨w3, wipeS s c.vs, cs, v, s', hs'.mono l3, hh3, r3, es, fun σ4 w4 H4 l4 hs4 hh4 hl4 ho4 => ⟨wipe_wipe hl4 ho4 hts, ?_⟩⟩
    refine oTst_of hs4 hh4 q2 fun w5 cs5 H5 l5 hh5 => ⟨fun q5 => ?_, fun q5 => ?_⟩
    · simp only [if_true]
      have l35 : w.le w5 := l3.trans (l4.trans l5)
      refine hk w5 s' σ4 cs5 H5 acc l _ _ (hs4.mono l5) hh5 (l35.A _ _ hA) hacc q5 fun w' acc' l' cs' H' lxD' hh' hA' hacc' p => ?_
      have lw' : lxD D w w' := (lxD.of l35).trans lxD'
      exact ⟨by omega, w', acc', l', cs', lw.trans lw', hA', hacc', hs'.monr lw'.r, hh', p⟩
    · show if (false = true) then _ else _
      rw [if_neg Bool.false_ne_true]
      have l35 : w.le w5 := l3.trans (l4.trans l5)
      exact ⟨by omega, w5, acc, l, cs5, lw.trans (lxD.of l35), l35.A _ _ hA, hacc, hs'.mono l35, hh5, q5⟩
end
end EV
/-! SeE: the evaluator's rules for sets. -/
namespace EV
open PySem PySem.Spec PyProof.Rows L2

section
variable {X : Cx} {Bs : BX} {W : WX} {G : Gl} {cl : CallF} {base : Nat} {D : Addr} {pos : Pos}
abbrev Ge := Expr × Expr × List Expr
def csOf (X : Cx) (Bs : BX) (G : Gl) (cl : CallF) (base : Nat) : Cl → List Ge → List Cs
  | .one t it o, [(tg, iter, ifs)] => [⟨tg, iter, ifs, T X.K Bs (rI X Bs) WF (evI G cl base it), gTg X Bs t, oTst X.K Bs G cl base o, t.slots⟩]
  | .more t it o r, (tg, iter, ifs) :: es => ⟨tg, iter, ifs, T X.K Bs (rI X Bs) WF (evI G cl base it), gTg X Bs t, oTst X.K Bs G cl base o, t.slots ++ r.alls⟩ :: csOf X Bs G cl base r es
  | _, _ => []
def clLen : Cl → Nat
  | .one _ _ _ => 1
  | .more _ _ _ r => clLen r + 1
theorem evC_one {t : Tg} {it : EV.It} {o : Oe} {k : LSt → List Val → Cells → R (List Val)} {s0 s : LSt} {acc : List Val} {cs : Cells} :
    evC G cl base (.one t it o) k s0 s acc cs = (evI G cl base it s0 cs).bind fun src cs => loopC src (fun v cs => setT cs t v s) (fun s acc cs => oRun G cl base o s acc cs fun cs => k s acc cs) src.xs.length 0 acc cs := by
  cases o <;> rfl
theorem evC_more {t : Tg} {it : EV.It} {o : Oe} {r : Cl} {k : LSt → List Val → Cells → R (List Val)} {s0 s : LSt} {acc : List Val} {cs : Cells} :
    evC G cl base (.more t it o r) k s0 s acc cs = (evI G cl base it s0 cs).bind fun src cs => loopC src (fun v cs => setT cs t v s) (fun s acc cs => oRun G cl base o s acc cs fun cs => evC G cl base r k s (wipeS s r.alls) acc cs) src.xs.length 0 acc cs := by
  cases o <;> rfl
/-- one clause within -/
theorem clause_body {c : Cs} {t : Tg} {it : EV.It} {o : Oe} {K : TPut} {kk : LSt → List Val → Cells → R (List Val)} (hk : BodyOk X Bs D kk K) (hcw : c.wi = T X.K Bs (rI X Bs) WF (evI G cl base it)) (hcg : c.g = gTg X Bs t) (hct : c.tt = oTst X.K Bs G cl base o) (hts : ∀ i ∈ t.slots, i ∈ c.vs) :
    BodyOk X Bs D (fun s acc cs => (evI G cl base it s cs).bind fun src cs => loopC src (fun v cs => setT cs t v (wipeS s c.vs)) (fun s acc cs => oRun G cl base o s acc cs fun cs => kk s acc cs) src.xs.length 0 acc cs)
      (fun σ H Nx => c.wi σ H fun J H1 => tLoop c K σ J Nx fun H => H = H1) := fun w s σ cs H acc l P Nx hs hh hA hacc hq hfin => by
  obtain ⟨src, cs1, ei, q1⟩ := quiet_bind hq
  show c.wi σ H _
  rw [hcw]
  refine ⟨w, s, cs, hs, hh, ?_⟩
  rw [ei]
  intro w1 J H1 l1 hh1 hJ
  exact loop_body hk hcg hct hts hJ (lxD.of Wd.le.rfl) (hs.mono l1) hh1 (l1.A _ _ hA) hacc q1 fun w' acc' l' cs' H' lw hh' hA' hacc' p => hfin w' acc' l' cs' H' ((lxD.of l1).trans lw) hh' hA' hacc' p
theorem in_eval {k : LSt → List Val → Cells → R (List Val)} {te : TPut} (hk : BodyOk X Bs D k te) : ∀ (c : Cl) (es : List Ge), es.length = clLen c → BodyOk X Bs D (fun s acc cs => evC G cl base c k s (wipeS s c.alls) acc cs) (tIn (csOf X Bs G cl base c es) te)
  | .one t it o, [(tg, iter, ifs)], _ => by
    have := clause_body (c := ⟨tg, iter, ifs, T X.K Bs (rI X Bs) WF (evI G cl base it), gTg X Bs t, oTst X.K Bs G cl base o, t.slots⟩) hk rfl rfl rfl (fun i hi => hi)
    intro w s σ cs H acc l P Nx hs hh hA hacc hq hfin
    exact this w s σ cs H acc l P Nx hs hh hA hacc (by
      have hq : Quiet P (evC G cl base (.one t it o) k s (wipeS s t.slots) acc cs) := hq
      rw [evC_one] at hq
      exact hq) hfin
  | .more t it o r, (tg, iter, ifs) :: es, hl => by
    have ih := in_eval hk r es (Nat.succ.inj hl)
    have := clause_body (c := ⟨tg, iter, ifs, T X.K Bs (rI X Bs) WF (evI G cl base it), gTg X Bs t, oTst X.K Bs G cl base o, t.slots ++ r.alls⟩) ih rfl rfl rfl (fun i hi => List.mem_append_left _ hi)
    intro w s σ cs H acc l P Nx hs hh hA hacc hq hfin
    exact this w s σ cs H acc l P Nx hs hh hA hacc (by
      have hq : Quiet P (evC G cl base (.more t it o r) k s (wipeS s (t.slots ++ r.alls)) acc cs) := hq
      rw [evC_more] at hq
      exact hq) hfin
  | .one _ _ _, [], hl => nomatch hl
  | .one _ _ _, _ :: _ :: _, hl => nomatch hl
  | .more _ _ _ _, [], hl => nomatch hl
theorem csOf_vs : ∀ (c : Cl) (es : List Ge), es.length = clLen c → csVs (csOf X Bs G cl base c es) = c.alls
  | .one t it o, [(tg, iter, ifs)], _ => rfl
  | .more t it o r, (tg, iter, ifs) :: es, hl => rfl
  | .one _ _ _, [], hl => nomatch hl
  | .one _ _ _, _ :: _ :: _, hl => nomatch hl
  | .more _ _ _ _, [], hl => nomatch hl
theorem csOf_deep : ∀ (c : Cl) (es : List Ge), es.length = clLen c → csDeep (csOf X Bs G cl base c es)
  | .one t it o, [(tg, iter, ifs)], _ => ⟨fun _ h => (by cases h), trivial⟩
  | .more t it o r, (tg, iter, ifs) :: es, hl => ⟨fun j h => List.mem_append_right _ (by rw [csOf_vs r es (Nat.succ.inj hl)] at h; exact h), csOf_deep r es (Nat.succ.inj hl)⟩
  | .one _ _ _, [], hl => nomatch hl
  | .one _ _ _, _ :: _ :: _, hl => nomatch hl
  | .more _ _ _ _, [], hl => nomatch hl

/-! ### sorted each once -/
theorem uniS_mem {x : List Nat} : ∀ {l : List (List Nat)}, x ∈ uniS l ↔ x ∈ l
  | [] => Iff.rfl
  | y :: r => by
    unfold uniS
    have ih := uniS_mem (x := x) (l := r)
    split
    · rename_i h
      rw [ih, List.mem_cons]
      exact ⟨.inr, fun z => z.elim (fun e => by rw [e]; simpa using h) id⟩
    · rw [List.mem_cons, List.mem_cons, ih]
theorem uniS_nodup : ∀ l : List (List Nat), (uniS l).Nodup
  | [] => List.nodup_nil
  | y :: r => by
    unfold uniS
    split
    · exact uniS_nodup r
    · rename_i h
      refine List.nodup_cons.mpr ⟨fun z => h ?_, uniS_nodup r⟩
      simpa using uniS_mem.mp z
theorem uni_perm (ss : List (List Nat)) : (txAll (ss.map tS) []).Perm ((uniS ss).map tS) := by
  have n1 : (txAll (ss.map tS) []).Nodup := nodup_txAll List.nodup_nil
  have n2 : ((uniS ss).map tS).Nodup := List.Pairwise.map tS (fun a b h z => h (tS_inj z)) (uniS_nodup ss)
  refine (List.perm_ext_iff_of_nodup n1 n2).mpr fun k => ?_
  rw [mem_txAll, List.mem_map, List.mem_map]
  constructor
  · rintro (⟨a, h, e⟩ | h)
    · exact ⟨a, uniS_mem.mpr h, e⟩
    · cases h
  · rintro ⟨a, h, e⟩
    exact .inl ⟨a, uniS_mem.mp h, e⟩
theorem sorted_uni {ys : List Str} {ss : List (List Nat)} (hp : ys.Perm (txAll (ss.map tS) [])) (hs : sortedS ys = true) : ys = (sortS (uniS ss)).map tS := sorted_is (hp.trans (uni_perm ss)) hs
theorem srt_fin {w : Wd} {σ : L2.St} {Q : VK} {ss : List (List Nat)} {cs : Cells} {H : Hp} (hh : HRel X.K w Bs cs H) (run : Run X.K Bs (rN X.K) W σ w Q (.ok (.lst ((sortS (uniS ss)).map .str)) cs)) : ∀ ys p, ys.Perm (txAll (ss.map tS) []) → sortedS ys = true → H p = none → Q (.ref p) (upd H p (.lst (ys.map V.str))) := fun ys p h1 h2 h3 => by
  rw [sorted_uni h1 h2]
  have r : RepL X.K w ((sortS (uniS ss)).map .str) (((sortS (uniS ss)).map tS).map V.str) := by
    rw [List.map_map]
    exact RepL.ofStrs _
  obtain ⟨hh2, rn⟩ := hh.newL h3 r
  exact run.done hh2 rn
theorem seq_strs {w : Wd} {cs : Cells} {H : Hp} {v : Val} {x : V} {ss : List (List Nat)} (hh : HRel X.K w Bs cs H) (r : RepV X.K w v x) (e : (seqOf cs v).bind strsOf = some ss) : ∃ t a, x = V.ref a ∧ SqB X.K H t a ((ss.map tS).map V.str) := by
  cases es : seqOf cs v with
  | none => rw [es] at e; cases e
  | some xs =>
    rw [es] at e
    obtain ⟨p, ys, rfl, h, rl⟩ := hh.seq_ r es
    have := rl.strs e
    rw [this] at h
    rw [List.map_map]
    rcases h with h | h
    · exact ⟨true, p, rfl, h⟩
    · exact ⟨false, p, rfl, h⟩
theorem sd_sst {a : Expr} {c : E} {p p2 q : Pos} (hc : X.calm = true) (hg : L2.Gl X "sorted") (hm : X.mg "sorted" = none) (hg2 : L2.Gl X "set") (hm2 : X.mg "set" = none) (ha : PE X a (TV X Bs W (evE G cl base c))) (na : starEach [a] X.env = (false, eval a X.env) :: starEach [] X.env) :
    PE X (.Call (.Name "sorted" p) [.Call (.Name "set" p2) [a] [] q] [] pos) (TN X Bs W (evE G cl base (.sst c))) := by
  refine PE.imp (pe_sst hc hg hm hg2 hm2 ha na) fun σ H Q h => T.bind (g := fun _ v cs => R.of (((seqOf cs v).bind strsOf).bind fun ss => if Nat.blt ss.length 64 then some (Val.lst ((sortS (uniS ss)).map .str)) else none) cs) h fun w s v x cs H1 hs hh r run => ?_
  obtain ⟨u, e, run⟩ := run.some_
  cases es : (seqOf cs v).bind strsOf with
  | none => rw [es] at e; cases e
  | some ss =>
    rw [es] at e
    have e : (if Nat.blt ss.length 64 then some (Val.lst ((sortS (uniS ss)).map .str)) else none) = some u := e
    split at e
    · rename_i hl
      cases e
      obtain ⟨t, a, rfl, h⟩ := seq_strs hh r es
      exact ⟨t, a, ss.map tS, rfl, h, by rw [List.length_map]; exact Nat.le_of_ble_eq_true hl, srt_fin hh run⟩
    · cases e
theorem sd_lns {a : Expr} {c : E} {p p2 q : Pos} (hc : X.calm = true) (hg : L2.Gl X "len") (hm : X.mg "len" = none) (hg2 : L2.Gl X "set") (hm2 : X.mg "set" = none) (ha : PE X a (TV X Bs W (evE G cl base c))) (na : starEach [a] X.env = (false, eval a X.env) :: starEach [] X.env) :
    PE X (.Call (.Name "len" p) [.Call (.Name "set" p2) [a] [] q] [] pos) (TN X Bs W (evE G cl base (.lns c))) := by
  refine PE.imp (pe_lns hc hg hm hg2 hm2 ha na) fun σ H Q h => T.bind (g := fun _ v cs => R.of (((seqOf cs v).bind strsOf).bind fun ss => if Nat.blt ss.length 64 then some (Val.int (uniS ss).length) else none) cs) h fun w s v x cs H1 hs hh r run => ?_
  obtain ⟨u, e, run⟩ := run.some_
  cases es : (seqOf cs v).bind strsOf with
  | none => rw [es] at e; cases e
  | some ss =>
    rw [es] at e
    have e : (if Nat.blt ss.length 64 then some (Val.int (uniS ss).length) else none) = some u := e
    split at e
    · rename_i hl
      cases e
      obtain ⟨t, a, rfl, h⟩ := seq_strs hh r es
      refine ⟨t, a, ss.map tS, rfl, h, by rw [List.length_map]; exact Nat.le_of_ble_eq_true hl, ?_⟩
      show Q (.int (txAll (ss.map tS) []).length) H1
      have hl2 := (uni_perm ss).length_eq
      rw [List.length_map] at hl2
      rw [hl2]
      exact run.done hh (.int _)
    · cases e
theorem sd_ssc {elt : Expr} {es : List Ge} {tg iter : Expr} {ifs : List Expr} {scope : Scope} {own : List (Str × Nat)} {t : Tg} {it : EV.It} {o : Oe} {c : Cl} {r : List Cs} {el : E} {p p2 : Pos} (hg0 : L2.Gl X "sorted") (hm0 : X.mg "sorted" = none) (hc : X.calm = true) (hN : X.N.Nodup)
    (hcl : (c = .one t it o ∧ r = [] ∧ es = []) ∨ ∃ c2, c = .more t it o c2 ∧ es.length = clLen c2 ∧ r = csOf X Bs G cl base c2 es ∧ ∀ i ∈ c2.alls, i ∈ own.map (·.2)) (hts : ∀ i ∈ t.slots, i ∈ own.map (·.2)) (hi : PI X tg iter (TIt X Bs W (evI G cl base it))) (ok : BlkOk X.N X.env.scope scope own)
    (hg : ∀ s H C clo fp, PG (Blk X scope s H C clo fp) tg (gTg X Bs t)) (ht : ∀ s H C clo fp, OcOk (Blk X scope s H C clo fp) Bs G cl base ifs o) (hr : ∀ s H C clo fp, ∀ c' ∈ r, CsOk (Blk X scope s H C clo fp) c') (he : ∀ s H C clo fp, PE (Blk X scope s H C clo fp) elt (T X.K Bs (rV X.K) WF (evE G cl base el))) (hs : ∀ x, foldedSetIterable iter X.env x = pure x) :
    PE X (.Call (.Name "sorted" p) [SC elt (⟨tg, iter, ifs, 0⟩ :: r.map Cs.gen) scope p2] [] pos) (TN X Bs W (evE G cl base (.ssc el (own.map (·.2)) c))) := by
  let hd : Cs := ⟨tg, iter, ifs, TIt X Bs W (evI G cl base it), gTg X Bs t, oTst X.K Bs G cl base o, own.map (·.2)⟩
  have hdeep : csDeep (hd :: r) := by
    rcases hcl with ⟨_, rfl, _⟩ | ⟨c2, _, hl, rfl, hall⟩
    · exact ⟨fun _ h => (by cases h), trivial⟩
    · exact ⟨fun j h => hall j (by rw [csOf_vs c2 es hl] at h; exact h), csOf_deep c2 es hl⟩
  refine PE.imp (pe_ssc (c := hd) (el := T X.K Bs (rV X.K) WF (evE G cl base el)) hg0 hm0 hc hN hi ok rfl hg (fun s H C clo fp => (ht s H C clo fp).pts) hr hdeep he hs) fun σ H Q h => ?_
  obtain ⟨w0, s, cs0, hs0, hh0, run0⟩ := h
  have run0 : Run X.K Bs (rN X.K) W σ w0 Q ((noX (evC G cl base c (fun s acc cs => elStr G cl base el s acc cs) s (wipeS s (own.map (·.2))) [] cs0)).bind fun vs cs => R.of ((strsOf vs).bind fun ss => if Nat.blt (uniS ss).length 64 then some (.lst ((sortS (uniS ss)).map .str)) else none) cs) := run0
  have q0 := run_quiet run0
  let kk : LSt → List Val → Cells → R (List Val) := fun s acc cs => match c with
    | .one _ _ _ => elStr G cl base el s acc cs
    | .more _ _ _ r => evC G cl base r (fun s acc cs => elStr G cl base el s acc cs) s (wipeS s r.alls) acc cs
  have hev : evC G cl base c (fun s acc cs => elStr G cl base el s acc cs) s (wipeS s (own.map (·.2))) [] cs0 = (evI G cl base it s cs0).bind fun src cs => loopC src (fun v cs => setT cs t v (wipeS s (own.map (·.2)))) (fun s acc cs => oRun G cl base o s acc cs fun cs => kk s acc cs) src.xs.length 0 [] cs := by
    rcases hcl with ⟨rfl, _⟩ | ⟨c2, rfl, _⟩
    · rw [evC_one]
    · rw [evC_more]
  rw [hev] at q0
  obtain ⟨src, cs1, ei, q1⟩ := quiet_bind q0
  refine ⟨w0, s, cs0, hs0, hh0, ?_⟩
  rw [ei]
  intro w1 J H1 l1 hh1 hJ D hD
  have hDA : w1.A D = none := hh1.none_A hD
  have hbody : BodyOk X Bs D kk (fun σ2 H3 N1 => tIn r (tPut X.prog X.w (T X.K Bs (rV X.K) WF (evE G cl base el)) D) σ2 H3 N1) := by
    rcases hcl with ⟨rfl, rfl, _⟩ | ⟨c2, rfl, hl, rfl, _⟩
    · exact el_body
    · exact in_eval el_body c2 es hl
  refine loop_body (c := hd) hbody rfl rfl hts hJ lxD.with_ (hs0.mono l1).wA (hh1.addA hD rfl) withA_at ⟨[], rfl, rfl⟩ q1 fun w' acc' l' cs' H' lw hh' hA' hacc' p => ?_
  obtain ⟨e1, e2, e3⟩ := hh'.ac D _ hA'
  obtain ⟨ss, hss, rfl⟩ := hacc'
  rw [hss] at p
  obtain ⟨u, eu, run⟩ := Run.some_ p
  have eu : (if Nat.blt (uniS ss).length 64 then some (Val.lst ((sortS (uniS ss)).map .str)) else none) = some u := eu
  split at eu
  · rename_i hl
    cases eu
    have lw0 : w0.le (w'.withA D none) := by
      have l2 : lxD D w1 (w'.withA D none) := lxD.with_.trans (lw.trans lxD.with_)
      refine l1.trans ⟨l2.r.n, l2.r.i, l2.r.F, fun p o e => l2.A p o (fun z => ?_) e, l2.r.x⟩
      rw [z, hDA] at e
      cases e
    refine ⟨D, _, rfl, e1, ?_, srt_fin hh'.unA (Run.mono lw0 run)⟩
    have hl2 := (uni_perm ss).length_eq
    rw [List.length_map] at hl2
    rw [hl2]
    exact Nat.le_of_ble_eq_true hl
  · cases eu
end
end EV
/-! SeF: repr of what is data. -/
namespace EV
open PySem PySem.Spec PyProof.Rows L2
section
variable {X : Cx} {Bs : BX}
/-- repr of data -/
theorem call_repr_data (hgd : X.A.guards = some []) (hu : X.A.units + 65 < cLine) : CallR X (.builtin "repr") (fun xs H Q => ∃ x d, xs = [x] ∧ Dp X.K H x d ∧ d.canLay0 = true ∧ d.depth ≤ 60 ∧ d.showable = true ∧ d.shown.length ≤ sizeLine ∧ Q (.str d.shown) H) := by
  intro pins s σ H xs us Q I r h
  obtain ⟨x, d, rfl, hd, hc, hp, hs, hz, q⟩ := h
  obtain ⟨u, rfl, ru⟩ := vals1 r
  have fin : ∀ (u : Tok) (t : Tok), EP X pins σ Q (.str d.shown u) { s with toks := t } := fun u t => ⟨.str _, H, I.tok _, ⟨u, rfl⟩, q⟩
  cases hd with
  | non =>
    cases ru
    exact PySem.P.repr_of_none (fin _ _)
  | bl b =>
    cases ru
    exact PySem.P.repr_of_bool (fin _ _)
  | int i =>
    obtain ⟨t, rfl⟩ := ru
    exact PySem.P.repr_of_int (of_decide_eq_true hs) (fin _ _)
  | str y =>
    obtain ⟨t, rfl⟩ := ru
    exact PySem.P.repr_of_str (fin _ _) hz
  | lst h1 h2 =>
    cases ru
    obtain ⟨as, ra⟩ := Dp.reads I _ _ _ (.lst h1 h2) rfl
    exact repr_of_reads' ra hs (PyData.noDict_hsm (PyData.hasDict_of_canLay _ hc)) hgd (by omega) (fun _ _ e => e) (fun h' u tk k => ⟨.str _, H, I.kept k, ⟨u, rfl⟩, q⟩) hz
  | tup h1 h2 =>
    cases ru
    obtain ⟨as, ra⟩ := Dp.reads I _ _ _ (.tup h1 h2) rfl
    exact repr_of_reads' ra hs (PyData.noDict_hsm (PyData.hasDict_of_canLay _ hc)) hgd (by omega) (fun _ _ e => e) (fun h' u tk k => ⟨.str _, H, I.kept k, ⟨u, rfl⟩, q⟩) hz
theorem cb_repr (hgd : X.A.guards = some []) (hu : X.A.units + 65 < cLine) : CallR X (.builtin "repr") (rBlt X Bs .repr) := by
  intro pins s σ H ys us Q I r ⟨w, cs, vs, z, hh, rv, e, q⟩
  unfold bltV at e
  simp only at e
  split at e
  · rename_i v
    split at e
    · rename_i hc
      simp only [Bool.and_eq_true] at hc
      obtain ⟨⟨h1, h2⟩, h3⟩ := hc
      cases e
      obtain ⟨y, rfl, ry⟩ := rv.one_
      obtain ⟨c1, c2⟩ := canLay_of _ _ h1
      refine call_repr_data hgd hu pins s σ H _ us Q I r ⟨y, _, rfl, hh.dp ry h1, c1, c2, h2, ?_, ?_⟩
      · rw [sizeLine_eq]
        exact Nat.le_of_ble_eq_true h3
      · have := q.here hh (.str _) rfl
        have e2 : tS ((topV cs v).py.shown.cps.toList) = (topV cs v).py.shown := by
          show (⟨_⟩ : Str) = _
          rw [Array.toArray_toList]
        rw [e2] at this
        exact this
    · cases e
  · cases e
end
end EV
/-! TrA: what the form of an expression says. -/
namespace EV
open PySem PySem.Spec PyProof.Rows L2

def isStar : Expr → Bool
  | .Starred _ _ => true
  | _ => false
theorem star_plain {e : Expr} {es : List Expr} {env : Env} (h : isStar e = false) : starEach (e :: es) env = (false, eval e env) :: starEach es env := by
  cases e <;> first | rfl | cases h
theorem star_any (pos : Pos) (env : Env) : ∀ es : List Expr, (backTo pos (starEach es env)).any (·.1) = es.any isStar
  | [] => rfl
  | e :: es => by
    have ih := star_any pos env es
    cases e <;> first
      | (show (false || (backTo pos (starEach es env)).any (·.1)) = (false || es.any isStar); rw [ih])
      | (show (true || (backTo pos (starEach es env)).any (·.1)) = (true || es.any isStar); rfl)
theorem star_all (pos : Pos) (env : Env) : ∀ es : List Expr, (backTo pos (starEach es env)).all (fun x => !x.1) = !es.any isStar
  | [] => rfl
  | e :: es => by
    have ih := star_all pos env es
    cases e <;> first
      | (show (true && (backTo pos (starEach es env)).all (fun x => !x.1)) = !(false || es.any isStar); rw [ih]; rfl)
      | (show (false && (backTo pos (starEach es env)).all (fun x => !x.1)) = !(true || es.any isStar); rfl)
def isComp : Expr → Bool
  | .ListComp .. => true
  | .SetComp .. => true
  | .DictComp .. => true
  | _ => false
theorem swaps_plain {e : Expr} {t : Option Expr} {l : Nat} {env : Env} (h : isComp e = false) : swapsWith e t l env = pure false := by
  cases e <;> first | rfl | cases h
theorem swaps_attr {e o : Expr} {a : Str} {p : Pos} {l : Nat} {env : Env} : swapsWith e (some (.Attribute o a p)) l env = pure false := by
  cases e <;> rfl
theorem swaps_sub {e o i : Expr} {p : Pos} {l : Nat} {env : Env} : swapsWith e (some (.Subscript o i p)) l env = pure false := by
  cases e <;> rfl
def isTupL : Expr → Bool
  | .Tuple .. => true
  | .List .. => true
  | _ => false
theorem stores_target {t e : Expr} {env : Env} (h : isTupL t = false) : swappedStores [t] e env = pure none := by
  cases t <;> first | rfl | cases h
def isTup : Expr → Bool
  | .Tuple .. => true
  | _ => false
theorem stores_value {t e : Expr} {env : Env} (h : isTup e = false) : swappedStores [t] e env = pure none := by
  cases e <;> first | (cases t <;> rfl) | cases h
def isTst : Expr → Bool
  | .UnaryOp .Not _ _ => true
  | .BoolOp .. => true
  | .IfExp .. => true
  | .Compare .. => true
  | _ => false
theorem true_plain {e : Expr} {env : Env} (h : isTst e = false) : ∀ whole, isTrue e env whole = (do let v ← whole; standAt e.pos; holding [v] (PySem.truthy v)) := fun whole => by
  cases e <;> first
    | rfl
    | cases h
    | (rename_i op _ _; cases op <;> first | rfl | cases h)
def isSet : Expr → Bool
  | .Set .. => true
  | _ => false
theorem fold_plain {e : Expr} {env : Env} (h : isSet e = false) : ∀ x, foldedSetIterable e env x = pure x := fun x => by
  cases e <;> first | rfl | cases h
def isSlice : Expr → Bool
  | .Slice .. => true
  | _ => false
theorem plain_ix {b : Expr} (h : isSlice b = false) : PlainIx b := fun o i => by
  cases b <;> first | rfl | cases h
theorem no_behind {op : CmpOp} {b : Expr} (h : isSet b = false) : behindInMarks op b = false := by
  cases b <;> first | rfl | cases h
def isSuper : Expr → Bool
  | .Call (.Name _ _) [] [] _ => true
  | _ => false
theorem base_plain {o : Expr} {a : Str} {env : Env} {w : Sem Value} (h : isSuper o = false) : attributeBase o a env w = w := by
  unfold attributeBase
  split
  · cases h
  · rfl
theorem one_target {t : Expr} {env : Env} (h : isStar t = false) : (assignEach [t] env).map (·.2) = [assign t env] := by
  cases t <;> first | rfl | cases h
def kwNames : List Keyword → Option (List Str)
  | [] => some []
  | ⟨some x, _, _⟩ :: r => (kwNames r).map (x :: ·)
  | ⟨none, _, _⟩ :: _ => none
theorem kw_all (pos : Pos) (env : Env) : ∀ (kws : List Keyword) (ks : List Str), kwNames kws = some ks → (backToKw pos (keywordEach kws env)).all (·.1.isSome) = true ∧ (backToKw pos (keywordEach kws env)).filterMap (·.1) = ks ∧ (backToKw pos (keywordEach kws env)).any (·.1.isNone) = false
  | [], ks, h => by
    cases h
    exact ⟨rfl, rfl, rfl⟩
  | ⟨some x, v, p⟩ :: r, ks, h => by
    have h : (kwNames r).map (x :: ·) = some ks := h
    cases e : kwNames r with
    | none => rw [e] at h; cases h
    | some l =>
      rw [e] at h
      cases h
      obtain ⟨h1, h2, h3⟩ := kw_all pos env r l e
      refine ⟨?_, ?_, ?_⟩
      · show (true && (backToKw pos (keywordEach r env)).all (·.1.isSome)) = true
        rw [h1]
        rfl
      · show x :: (backToKw pos (keywordEach r env)).filterMap (·.1) = x :: l
        rw [h2]
      · show (false || (backToKw pos (keywordEach r env)).any (·.1.isNone)) = false
        rw [h3]
        rfl
  | ⟨none, _, _⟩ :: _, _, h => nomatch h
theorem call_method_eq {o : Expr} {m : Str} {apos pos : Pos} {es : List Expr} {kws : List Keyword} {env : Env} (hs : isSuper o = false) (hform : methodCallForm (es.length + kws.length) (backTo pos (starEach es env)) (backToKw pos (keywordEach kws env)) = true)
    (hl : (apos.endLine == pos.line) = true) : eval (.Call (.Attribute o m apos) es kws pos) env = (do
      let ov ← eval o env
      standAt apos.atName
      let (f, first) ← holding [ov] (getMethod ov m (do return (← importBound o env).getD true))
      callWith pos f first (backTo pos (starEach es env)) (backToKw pos (keywordEach kws env))) := by
  show (do
    let ov ← attributeBase o m env (eval o env)
    standAt apos.atName
    methodCall o m apos pos env ov (es.length + kws.length) (backTo pos (starEach es env)) (backToKw pos (keywordEach kws env))) = _
  rw [base_plain hs]
  congr 1
  funext ov
  congr 1
  funext _
  unfold methodCall calleeOf methodCallPos
  rw [hform, hl]
  simp only [if_true, Bool.not_true, Bool.false_or, pure_bind]
/-- how a call is written -/
theorem shape_of {X : Cx} {pos : Pos} {es : List Expr} {kws : List Keyword} {ks : List Str} (hk : kwNames kws = some ks) (h : es.any isStar = false ∨ (∃ e r, es = e :: r ∧ isStar e = false ∧ r.any isStar = true ∧ kws = [])) : Shape X pos es kws ks := by
  obtain ⟨h1, h2, h3⟩ := kw_all pos X.env kws ks hk
  rcases h with h | ⟨e, r, rfl, he, hr, rfl⟩
  · cases es with
    | nil => exact .kw0 h1 h2 h3
    | cons e r =>
      have he : isStar e = false := by
        cases e <;> first | rfl | cases h
      exact .kw h1 h2 (by rw [star_any, h, h3]; rfl) (star_plain he)
  · cases hk
    exact .star (star_plain he) (by rw [star_any]; exact hr)
end EV
/-! TrB: the translation. What it does not know becomes 'bad', which answers nothing. -/
namespace EV
open PySem PySem.Spec PyProof.Rows L2

/-- what a name of the module stands for -/
inductive NK
  | fn (f : Str) | cls (C : Str) | exc (C : Str) | con (v : Val) | bi
structure Tc where
  N : List Str
  sc : Scope
  nm : List (Str × NK)
  hint : List (Nat × Nat)
  hot : Bool
  top : Str → Bool
/-- the cells that a block makes -/
def topOf (scope : Scope) (x : Str) : Bool := scope.names.lookup x == some .cell
def bad : E := .srk (.val .non) 0
def badS : S := .exp bad
def findIx (x : Str) : List Str → Nat → Option Nat
  | [], _ => none
  | y :: r, i => if y = x then some i else findIx x r (i + 1)
def okName (x : Str) : Bool := !(x == ("__debug__" : Str)) && !(x == ("__classdict__" : Str)) && !(x == ("__name__" : Str))
/-- the slot of a name that is seen here -/
def Tc.slot (tc : Tc) (x : Str) : Option Nat := if okName x then (match tc.sc.names.lookup x with
  | some .local => findIx x tc.N 0
  | some .cell => findIx x tc.N 0
  | some .free => findIx x tc.N 0
  | _ => none) else none
/-- .. that may be stored here -/
def Tc.store (tc : Tc) (x : Str) : Option Nat := match tc.sc.names.lookup x with
  | some .local => findIx x tc.N 0
  | some .cell => if tc.top x then findIx x tc.N 0 else none
  | _ => none
/-- what a global name stands for -/
def Tc.glob (tc : Tc) (x : Str) : Option NK := if okName x then (match tc.sc.names.lookup x with
  | some .globalImplicit => tc.nm.lookup x
  | _ => none) else none
def isBi (tc : Tc) (x y : Str) : Bool := x == y && (match tc.glob x with
  | some .bi => true
  | _ => false)
def bltOf (x : Str) : Option Bn :=
  if x = "len" then some .len else if x = "all" then some .all else if x = "tuple" then some .tuple else if x = "list" then some .list else if x = "sorted" then some .sorted else
  if x = "int" then some .int else if x = "abs" then some .abs else if x = "max" then some .max else if x = "min" then some .min else if x = "sum" then some .sum else if x = "str" then some .str else none
def mnOf (x : Str) : Option Mn :=
  if x = "append" then some .append else if x = "extend" then some .extend else if x = "partition" then some .partition else if x = "split" then some .split else if x = "startswith" then some .startswith else
  if x = "endswith" then some .endswith else if x = "rstrip" then some .rstrip else if x = "index" then some .index else if x = "join" then some .join else none
def tyOf (tc : Tc) (x : Str) : Option Ty := match tc.glob x with
  | some .bi => if tc.hot then none else if x = "str" then some .str else if x = "int" then some .int else if x = "bool" then some .bool else if x = "tuple" then some .tuple else if x = "list" then some .list else none
  | some (.cls C) => if tc.hot then none else some (.cls C)
  | some (.exc C) => if tc.hot then some (.cls C) else none
  | _ => none
def tyAll (tc : Tc) : List Expr → Option (List Ty)
  | [] => some []
  | .Name x _ :: r => match tyOf tc x, tyAll tc r with
    | some t, some ts => some (t :: ts)
    | _, _ => none
  | _ :: _ => none
def hinted (tc : Tc) (p : Pos) : Bool := tc.hint.contains (p.line, p.col)
/-- the names of a block, with their places -/
def ownOf (N : List Str) (scope : Scope) : List (Str × Nat) := scope.names.filterMap fun y => if y.2 = .local ∨ y.2 = .cell then (findIx y.1 N 0).map fun i => (y.1, i) else none
def namesOf (tc : Tc) : List Expr → Option (List Nat)
  | [] => some []
  | .Name x _ :: r => match tc.store x, namesOf tc r with
    | some i, some is => some (i :: is)
    | _, _ => none
  | _ :: _ => none
/-- .., *x -/
def splitStar : List Expr → Option (List Expr × Str)
  | [] => none
  | [.Starred (.Name x _) _] => some ([], x)
  | e :: r => (splitStar r).map fun p => (e :: p.1, p.2)
def trTg (tc : Tc) (t : Expr) : Option Tg := match t with
  | .Name x _ => (tc.store x).map .nm
  | .Tuple es _ _ => match namesOf tc es with
    | some is => some (.tp is)
    | none => match splitStar es with
      | some (l, x) => match namesOf tc l, tc.store x with
        | some is, some j => some (.st is j)
        | _, _ => none
      | none => none
  | _ => none
def isProd : Expr → Bool
  | .BinOp .. => true
  | .List .. => true
  | .Subscript _ i _ => isSlice i
  | .ListComp .. => true
  | .DictComp .. => true
  | .Dict [] [] _ => true
  | .Dict [none, some _] [_, _] _ => true
  | .Call (.Name x _) (_ :: _) [] _ => (bltOf x).isSome || x == "repr"
  | .Call (.Attribute _ m _) (_ :: _) [] _ => (mnOf m).isSome
  | _ => false
def posOf : Expr → Pos
  | e => e.pos
def headPlain : List Expr → Bool
  | e :: _ => !isStar e
  | [] => false
def okStars (es : List Expr) (kws : List Keyword) : Bool := !(es.any isStar) || (kws.isEmpty && headPlain es)
/-- the clause's own names lie in the block's -/
def slotsIn (t : Tg) (own : List (Str × Nat)) : Bool := t.slots.all fun i => (own.map (·.2)).contains i
/-- the a of set(a) -/
def setArg (tc : Tc) : List Expr → Option Expr
  | [.Call (.Name y _) [a] [] _] => if isBi tc y "set" && !isStar a then some a else none
  | _ => none
def setComp : List Expr → Option (Expr × List Comprehension × Scope)
  | [.SetComp elt gens scope _] => some (elt, gens, scope)
  | _ => none
mutual
def trE : Nat → Tc → Expr → E
  | 0, _, _ => bad
  | n + 1, tc, e => if isProd e then (if hinted tc e.pos then .cell (trN n tc e) else trN n tc e) else trV n tc e
/-- what makes a value anew -/
def trN : Nat → Tc → Expr → E
  | 0, _, _ => bad
  | n + 1, tc, e => match e with
    | .BinOp a op b _ => .bin op (trE n tc a) (trE n tc b)
    | .List es _ => .lst (trEs n tc es)
    | .Dict ks vs _ => match ks, vs with
      | [], [] => .dct .nil
      | [none, some k], [m, v] => .dmg (trE n tc m) (trE n tc k) (trE n tc v)
      | _, _ => bad
    | .Subscript a (.Slice lo hi none _) _ => .slc (trE n tc a) (trO n tc lo) (trO n tc hi)
    | .ListComp elt gens scope _ => if tc.hot then bad else if blkC tc.N tc.sc scope (ownOf tc.N scope) then (match trCl n tc { tc with sc := relS scope tc.sc, top := topOf scope } (ownOf tc.N scope) gens with
      | some c => .lc (trE n { tc with sc := relS scope tc.sc, top := topOf scope } elt) ((ownOf tc.N scope).map (·.2)) c
      | none => bad) else bad
    | .DictComp kx vx gens scope _ => if tc.hot then bad else if blkC tc.N tc.sc scope (ownOf tc.N scope) then (match trCl n tc { tc with sc := relS scope tc.sc, top := topOf scope } (ownOf tc.N scope) gens with
      | some (.one t it o) => .dc (trE n { tc with sc := relS scope tc.sc, top := topOf scope } kx) (trE n { tc with sc := relS scope tc.sc, top := topOf scope } vx) ((ownOf tc.N scope).map (·.2)) (.one t it o)
      | _ => bad) else bad
    | .Call (.Name x _) es kws _ => match kws with
      | [] => if isBi tc x "repr" then (match es with
        | [a] => if isStar a then bad else .blt .repr (trEs n tc [a])
        | _ => bad) else if tc.hot then bad else match setArg tc es with
        | some a => if isBi tc x "sorted" then .sst (trE n tc a) else if isBi tc x "len" then .lns (trE n tc a) else bad
        | none => match setComp es with
          | some (elt, gens, scope) => if isBi tc x "sorted" && blkC tc.N tc.sc scope (ownOf tc.N scope) then (match trSc n tc { tc with sc := relS scope tc.sc, top := topOf scope } (ownOf tc.N scope) gens with
            | some c => .ssc (trE n { tc with sc := relS scope tc.sc, top := topOf scope } elt) ((ownOf tc.N scope).map (·.2)) c
            | none => bad) else bad
          | none => match bltOf x, tc.glob x with
            | some b, some .bi => if es.any isStar then bad else .blt b (trEs n tc es)
            | _, _ => bad
      | _ => bad
    | .Call (.Attribute o m apos) es kws pos => match kws with
      | [] => match mnOf m with
        | some k => if es.any isStar || !(apos.endLine == pos.line) || isSuper o || !(decide (es.length < 29)) then bad else .bm (trE n tc o) k (trEs n tc es)
        | none => bad
      | _ => bad
    | _ => bad
def trV : Nat → Tc → Expr → E
  | 0, _, _ => bad
  | n + 1, tc, e => match e with
    | .Name x _ => match tc.slot x with
      | some i => .var i
      | none => match tc.glob x with
        | some (.con v) => .val v
        | some (.fn f) => .val (.glo f)
        | _ => bad
    | .Constant c _ _ => match c with
      | .int i => .val (.int i)
      | .str s => .val (.str s.cps.toList)
      | .bool b => .val (.bl b)
      | .none => .val .non
      | _ => bad
    | .Tuple es _ _ => .tup (trEs n tc es)
    | .UnaryOp op a _ => match op with
      | .Not => .not (trE n tc a)
      | .USub => .neg (trE n tc a)
      | _ => bad
    | .BoolOp op vs _ => trBool n tc op vs
    | .IfExp c a b _ => .ite (trT n tc c) (trE n tc a) (trE n tc b)
    | .Compare a ops bs _ => match ops, bs with
      | [op], [b] => if isSet b || (tc.hot && isIn op) then bad else .cmp op (trE n tc a) (trE n tc b)
      | [o1, o2], [b, c] => if isSet c then bad else .chn o1 o2 (trE n tc a) (trE n tc b) (trE n tc c)
      | _, _ => bad
    | .Subscript a i _ => if isSlice i then bad else .idx (trE n tc a) (trE n tc i)
    | .Attribute o x _ => if isSuper o then bad else if tc.hot then .xat (trE n tc o) x else .att (trE n tc o) x
    | .Call (.Name x p) es kws pos => if isBi tc x "isinstance" then (if kws.isEmpty then trIsi n tc es else bad) else match tc.slot x with
      | some i => if tc.hot || es.any isStar || !kws.isEmpty then bad else .clv (.var i) (trEs n tc es)
      | none => match tc.glob x with
        | some (.fn f) => trCall n tc f es kws
        | some (.cls C) => trCall n tc C es kws
        | _ => bad
    | .Call (.Attribute o m apos) es kws pos => if tc.hot || es.any isStar || !(apos.endLine == pos.line) || isSuper o || !(decide (es.length + kws.length < 29)) then bad else
      if m = "pop" && es.isEmpty && kws.isEmpty then .bm (trE n tc o) .pop .nil else match kwNames kws with
      | some ks => .mth (trE n tc o) m (trEs n tc es) ks (trKs n tc kws)
      | none => bad
    | .Call (.Subscript a i p) es kws pos => if tc.hot || es.any isStar || !kws.isEmpty then bad else .clv (trE n tc (.Subscript a i p)) (trEs n tc es)
    | _ => bad
def trIsi : Nat → Tc → List Expr → E
  | 0, _, _ => bad
  | n + 1, tc, es => match es with
    | [e, .Name y _] => if isStar e then bad else match tyOf tc y with
      | some t => if tc.hot then .isx (trE n tc e) [t] else .isi (trE n tc e) [t]
      | none => bad
    | [e, .Tuple ys _ _] => if isStar e || tc.hot || ys.isEmpty || !(decide (ys.length < 100)) then bad else match tyAll tc ys with
      | some ts => .isi (trE n tc e) ts
      | none => bad
    | _ => bad
def trCall : Nat → Tc → Str → List Expr → List Keyword → E
  | 0, _, _, _, _ => bad
  | n + 1, tc, f, es, kws => if tc.hot then bad else match kwNames kws with
    | some ks => if okStars es kws then .cll f (trEs n tc es) ks (trKs n tc kws) else bad
    | none => bad
def trBool : Nat → Tc → BoolOp → List Expr → E
  | 0, _, _, _ => bad
  | n + 1, tc, op, vs => match vs with
    | [] => bad
    | [a] => trE n tc a
    | a :: b :: r => match op with
      | .And => .and (trE n tc a) (trBool n tc .And (b :: r))
      | .Or => .or (trE n tc a) (trBool n tc .Or (b :: r))
/-- as a test -/
def trT : Nat → Tc → Expr → E
  | 0, _, _ => bad
  | n + 1, tc, e => match e with
    | .IfExp _ _ _ _ => bad
    | .UnaryOp op a _ => match op with
      | .Not => .not (trT n tc a)
      | _ => trE n tc e
    | .BoolOp op vs _ => trBoolT n tc op vs
    | .Compare a ops bs _ => match ops, bs with
      | [op], [b] => if isSet b || (tc.hot && isIn op) then bad else .cmp op (trE n tc a) (trE n tc b)
      | [o1, o2], [b, c] => if isSet c then bad else .chn o1 o2 (trE n tc a) (trE n tc b) (trE n tc c)
      | _, _ => bad
    | e => trE n tc e
def trBoolT : Nat → Tc → BoolOp → List Expr → E
  | 0, _, _, _ => bad
  | n + 1, tc, op, vs => match vs with
    | [] => bad
    | [a] => trT n tc a
    | a :: b :: r => match op with
      | .And => .and (trT n tc a) (trBoolT n tc .And (b :: r))
      | .Or => .or (trT n tc a) (trBoolT n tc .Or (b :: r))
def trEs : Nat → Tc → List Expr → Es
  | 0, _, es => match es with
    | [] => .nil
    | _ => .cons bad .nil
  | n + 1, tc, es => match es with
    | [] => .nil
    | .Starred e _ :: r => .star (trE n tc e) (trEs n tc r)
    | e :: r => .cons (trE n tc e) (trEs n tc r)
def trKs : Nat → Tc → List Keyword → Es
  | 0, _, kws => match kws with
    | [] => .nil
    | _ => .cons bad .nil
  | n + 1, tc, kws => match kws with
    | [] => .nil
    | ⟨_, e, _⟩ :: r => .cons (trE n tc e) (trKs n tc r)
def trO : Nat → Tc → Option Expr → Oe
  | 0, _, _ => .yes bad
  | n + 1, tc, o => match o with
    | none => .no
    | some e => .yes (trE n tc e)
def trIt : Nat → Tc → Expr → Expr → It
  | 0, _, _, _ => .seq bad
  | n + 1, tc, tg, it => match it with
    | .Call (.Name x _) es kws _ => if isBi tc x "range" && kws.isEmpty then (match es with
        | [b] => if isStar b then .seq bad else .rng1 (trE n tc b)
        | [a, b] => if isStar a || isStar b then .seq bad else .rng2 (trE n tc a) (trE n tc b)
        | _ => .seq bad) else if isTup tg && kws.isEmpty && isBi tc x "enumerate" then (match es with
        | [a] => if isStar a then .seq bad else .enu (trE n tc a)
        | _ => .seq bad) else if isTup tg && kws.isEmpty && isBi tc x "zip" then (match es with
        | [a, b] => if isStar a || isStar b then .seq bad else .zip2 (trE n tc a) (trE n tc b)
        | [a, b, c] => if isStar a || isStar b || isStar c then .seq bad else .zip3 (trE n tc a) (trE n tc b) (trE n tc c)
        | _ => .seq bad) else .seq (trE n tc it)
    | .Call (.Attribute e m apos) es kws pos => if es.isEmpty && kws.isEmpty && !isSuper e && (apos.endLine == pos.line) then
        (if m = "values" then .vals (trE n tc e) else if m = "items" then (match tg with
          | .Tuple _ _ _ => .items (trE n tc e)
          | _ => .seq bad) else .seq (trE n tc it)) else .seq (trE n tc it)
    | it => .seq (trE n tc it)
/-- clauses: tc around, ti within -/
def trCl : Nat → Tc → Tc → List (Str × Nat) → List Comprehension → Option Cl
  | 0, _, _, _, _ => none
  | n + 1, tc, ti, own, gens => match gens with
    | [⟨tg, it, ifs, 0⟩] => match trTg ti tg, trIf n ti ifs with
      | some t, some o => if slotsIn t own && !isSet it then some (.one t (trIt n tc tg it) o) else none
      | _, _ => none
    | [⟨tg, it, ifs, 0⟩, ⟨tg1, it1, ifs1, 0⟩] => match trTg ti tg, trIf n ti ifs, trTg ti tg1, trIf n ti ifs1 with
      | some t, some o, some t1, some o1 => if slotsIn t own && slotsIn t1 own && !isSet it && !isSet it1 then some (.more t (trIt n tc tg it) o (.one t1 (trIt n ti tg1 it1) o1)) else none
      | _, _, _, _ => none
    | _ => none
/-- the clauses of a set comprehension: the first, and those within -/
def trSc : Nat → Tc → Tc → List (Str × Nat) → List Comprehension → Option Cl
  | 0, _, _, _, _ => none
  | n + 1, tc, ti, own, gens => match gens with
    | ⟨tg, it, ifs, 0⟩ :: r => match trTg ti tg, trIf n ti ifs with
      | some t, some o => if slotsIn t own && !isSet it then (match r with
        | [] => some (.one t (trIt n tc tg it) o)
        | _ :: _ => match trCs n ti r with
          | some c => if c.alls.all (fun i => (own.map (·.2)).contains i) then some (.more t (trIt n tc tg it) o c) else none
          | none => none) else none
      | _, _ => none
    | [] => none
    | _ => none
def trCs : Nat → Tc → List Comprehension → Option Cl
  | 0, _, _ => none
  | n + 1, ti, gens => match gens with
    | ⟨tg, it, ifs, 0⟩ :: r => match trTg ti tg, trIf n ti ifs with
      | some t, some o => if isSet it then none else (match r with
        | [] => some (.one t (trIt n ti tg it) o)
        | _ :: _ => match trCs n ti r with
          | some c => some (.more t (trIt n ti tg it) o c)
          | none => none)
      | _, _ => none
    | [] => none
    | _ => none
def trIf : Nat → Tc → List Expr → Option Oe
  | 0, _, _ => none
  | n + 1, tc, ifs => match ifs with
    | [] => some .no
    | [c] => some (.yes (trT n tc c))
    | _ => none
end
end EV
/-! TrC: the translation of expressions is right. -/
namespace EV
open PySem PySem.Spec PyProof.Rows L2

/-- what the names of the module stand for -/
def NmOkG (K : Fg) (mg : Str → Option Value) (G : Gl) (nm : List (Str × NK)) : Prop := ∀ x k, nm.lookup x = some k → match k with
  | .fn f => ∃ d, G.defs.lookup f = some d ∧ G.clss.lookup f = none ∧ mg x = some (.ref (He.fAd K d.at_)) ∧ He.fAd K d.at_ = He.ga K f
  | .cls C => ∃ c i, G.clss.lookup C = some c ∧ c.meths.lookup ("__init__" : Str) = some i ∧ mg x = some (.ref (He.ga K C))
  | .exc C => ∃ i, G.excs.lookup C = some i ∧ mg x = some (.ref (He.ga K C))
  | .con v => ∃ u y, mg x = some u ∧ RelV y u ∧ ∀ w, RepV K w v y
  | .bi => mg x = none
/-- what is known of the program -/
structure PF (K : Fg) (mg : Str → Option Value) (G : Gl) (fdm : Str → FuncData) (nm : List (Str × NK)) : Prop where
  names : NmOkG K mg G nm
  defs : DefsOk K G fdm
  clss : ClssOk K G
  flds : FldsOk K G
  isok : IsOk K G
  exs : ExsOk K G
  nosp : NoSp G
structure CxE (G : Gl) (cl : CallF) (fdm : Str → FuncData) (tc : Tc) (X : Cx) (W : WX) (f : Fr) (k : Nat) : Prop where
  pf : PF X.K X.mg G fdm tc.nm
  N : X.N = tc.N
  sc : X.env.scope = tc.sc
  nd : X.N.Nodup
  fok : f.Ok
  uni : X.A.units + 65 < cLine
  gd : X.A.guards = some []
  fnl : ∀ x, tc.top x = true → X.fn x = true
  good : tc.hot = false → Good G cl fdm X W f k
  held : tc.hot = true → ∃ (Y : Cx) (a : Addr) (oe : Obj) (cls : Value) (d : Option Addr) (pn : List (Addr × Obj)), X = Y.suite a ((a, oe) :: pn) ∧ Zc cls d oe ∧ (∃ vs, oe.data = .fields vs) ∧ ∀ p q, f.Bs.xo p q → heldAt X.K a cls d p q
theorem findIx_at {x : Str} : ∀ {N : List Str} {j i : Nat}, findIx x N j = some i → j ≤ i ∧ N[i - j]? = some x
  | [], _, _, h => nomatch h
  | y :: r, j, i, h => by
    unfold findIx at h
    split at h
    · rename_i e
      cases h
      refine ⟨Nat.le_refl _, ?_⟩
      rw [Nat.sub_self, e]
      rfl
    · obtain ⟨h1, h2⟩ := findIx_at h
      refine ⟨by omega, ?_⟩
      rw [show i - j = (i - (j + 1)) + 1 by omega]
      exact h2
theorem findIx_0 {x : Str} {N : List Str} {i : Nat} (h : findIx x N 0 = some i) : N[i]? = some x := (findIx_at h).2
section
variable {G : Gl} {cl : CallF} {fdm : Str → FuncData} {tc : Tc} {X : Cx} {W : WX} {f : Fr} {k : Nat}
theorem okName_of {x : Str} (h : okName x = true) : (x == ("__debug__" : Str)) = false ∧ (x == ("__classdict__" : Str)) = false ∧ x ≠ "__name__" := by
  unfold okName at h
  simp only [Bool.and_eq_true, Bool.not_eq_true'] at h
  exact ⟨h.1.1, h.1.2, fun e => by rw [e] at h; simp at h⟩
theorem slot_ok (c : CxE G cl fdm tc X W f k) {x : Str} {i : Nat} (h : tc.slot x = some i) : X.N[i]? = some x ∧ Vis X.env.scope x ∧ (x == ("__debug__" : Str)) = false ∧ (x == ("__classdict__" : Str)) = false := by
  unfold Tc.slot at h
  split at h
  · rename_i hn
    obtain ⟨h1, h2, _⟩ := okName_of hn
    unfold Vis
    rw [c.N, c.sc]
    split at h
    · rename_i e
      exact ⟨findIx_0 h, .inl e, h1, h2⟩
    · rename_i e
      exact ⟨findIx_0 h, .inr (.inl e), h1, h2⟩
    · rename_i e
      exact ⟨findIx_0 h, .inr (.inr e), h1, h2⟩
    · cases h
  · cases h
theorem store_okN (c : CxE G cl fdm tc X W f k) {x : Str} {i : Nat} (h : tc.store x = some i) : NmOk X x i := by
  unfold Tc.store at h
  split at h
  · rename_i e
    exact ⟨by rw [c.N]; exact findIx_0 h, .inl (by rw [c.sc]; exact e), .inr (by rw [c.sc]; exact e)⟩
  · rename_i e
    split at h
    · rename_i ht
      exact ⟨by rw [c.N]; exact findIx_0 h, .inr (by rw [c.sc]; exact e), .inl (c.fnl x ht)⟩
    · cases h
  · cases h
theorem glob_ok (c : CxE G cl fdm tc X W f k) {x : Str} {q : NK} (h : tc.glob x = some q) : L2.Gl X x ∧ tc.nm.lookup x = some q ∧ (x == ("__debug__" : Str)) = false ∧ x ≠ "__name__" := by
  unfold Tc.glob at h
  split at h
  · rename_i hn
    obtain ⟨h1, h2, h3⟩ := okName_of hn
    split at h
    · rename_i e
      refine ⟨?_, h, h1, h3⟩
      show X.env.scope.names.lookup x = _
      rw [c.sc]
      exact e
    · cases h
  · cases h
theorem isBi_ok (c : CxE G cl fdm tc X W f k) {x y : Str} (h : isBi tc x y = true) : x = y ∧ L2.Gl X x ∧ X.mg x = none ∧ (x == ("__debug__" : Str)) = false ∧ x ≠ "__name__" := by
  unfold isBi at h
  obtain ⟨h1, h2⟩ := and2 h
  split at h2
  · rename_i e
    obtain ⟨g1, g2, g3, g4⟩ := glob_ok c e
    exact ⟨eq_of_beq h1, g1, c.pf.names _ _ g2, g3, g4⟩
  · cases h2
theorem names_ok (c : CxE G cl fdm tc X W f k) : ∀ {es : List Expr} {is : List Nat}, namesOf tc es = some is → NmsOk X es is
  | [], is, h => by
    cases h
    exact .nil
  | e :: r, is, h => by
    cases e with
    | Name x p =>
      unfold namesOf at h
      cases e1 : tc.store x with
      | none => simp [e1] at h
      | some i =>
        cases e2 : namesOf tc r with
        | none => simp [e1, e2] at h
        | some js =>
          simp only [e1, e2] at h
          cases h
          exact .cons (store_okN c e1) (names_ok c e2)
    | _ => cases h
theorem splitStar_ok : ∀ {es l : List Expr} {x : Str}, splitStar es = some (l, x) → ∃ p q, es = l ++ [.Starred (.Name x p) q]
  | [], _, _, h => nomatch h
  | e :: r, l, x, h => by
    unfold splitStar at h
    split at h
    · cases h
    · rename_i y p q z
      cases z
      cases h
      exact ⟨p, q, rfl⟩
    · rename_i e' r' hne z
      cases z
      cases e1 : splitStar r with
      | none => rw [e1] at h; cases h
      | some u =>
        obtain ⟨l', y⟩ := u
        rw [e1] at h
        cases h
        obtain ⟨p, q, rfl⟩ := splitStar_ok e1
        exact ⟨p, q, rfl⟩
theorem tg_ok (c : CxE G cl fdm tc X W f k) {t : Expr} {g : Tg} (hc : X.calm = true) (h : trTg tc t = some g) : PG X t (gTg X f.Bs g) := by
  unfold trTg at h
  split at h
  · rename_i x p
    cases e : tc.store x with
    | none => rw [e] at h; cases h
    | some i =>
      rw [e] at h
      cases h
      exact sg_nm c.nd (store_okN c e)
  · rename_i es kk p
    cases e : namesOf tc es with
    | some is =>
      simp only [e] at h
      cases h
      exact sg_tp hc c.nd (names_ok c e)
    | none =>
      simp only [e] at h
      split at h
      · rename_i l x hs
        split at h
        · rename_i is j h1 h2
          cases h
          obtain ⟨p, q, rfl⟩ := splitStar_ok hs
          exact sg_st hc c.nd (names_ok c h1) (store_okN c h2)
        · cases h
      · cases h
  · cases h
theorem bad_pe {e : Expr} : PE X e (TV X f.Bs W (evE G cl f.base bad)) := PE.imp pe_no fun σ H Q ⟨w, s, cs, hs, hh, hr⟩ => hr
theorem bad_pn {e : Expr} : PE X e (TN X f.Bs W (evE G cl f.base bad)) := PE.imp pe_no fun σ H Q ⟨w, s, cs, hs, hh, hr⟩ => hr
theorem bad_pt {e : Expr} : PT X e (TB X f.Bs W (evE G cl f.base bad)) := ⟨fun pins s σ H Q I ⟨w, st, cs, hs, hh, hr⟩ => (show False from hr).elim⟩
theorem bad_pa {es : List Expr} {r : Es} : PA X es (TL X f.Bs W (evEs G cl f.base (.cons bad r))) := ⟨fun pos pins s σ H Q I ⟨w, st, cs, hs, hh, hr⟩ => (show False from hr).elim⟩
theorem bad_pk {es : List Keyword} {r : Es} : PK X es (TL X f.Bs W (evEs G cl f.base (.cons bad r))) := ⟨fun pos pins s σ H Q I ⟨w, st, cs, hs, hh, hr⟩ => (show False from hr).elim⟩
theorem bad_pi {tg e : Expr} : PI X tg e (TIt X f.Bs W (evI G cl f.base (.seq bad))) := ⟨fun pins s σ H Q I ⟨w, st, cs, hs, hh, hr⟩ => (show False from hr).elim⟩
end
theorem isIn_or {op : CmpOp} (h : isIn op = true) : op = .In ∨ op = .NotIn := by
  cases op <;> first | exact .inl rfl | exact .inr rfl | cases h
theorem cmp_both {G : Gl} {cl : CallF} {fdm : Str → FuncData} {tc : Tc} {X : Cx} {W : WX} {f : Fr} {k : Nat} (c : CxE G cl fdm tc X W f k) {op : CmpOp} {a b : Expr} {ca cb : E} {pos : Pos} (h : ¬ (isSet b || (tc.hot && isIn op)) = true) (ha : PE X a (TV X f.Bs W (evE G cl f.base ca))) (hb : PE X b (TV X f.Bs W (evE G cl f.base cb))) :
    PE X (.Compare a [op] [b] pos) (TV X f.Bs W (evE G cl f.base (.cmp op ca cb))) ∧ PT X (.Compare a [op] [b] pos) (TB X f.Bs W (evE G cl f.base (.cmp op ca cb))) := by
  simp only [Bool.or_eq_true, not_or, Bool.not_eq_true] at h
  obtain ⟨h1, h2⟩ := h
  cases ho : isIn op with
  | false => exact sd_cmp ho c.pf.nosp c.uni ha hb (no_behind h1)
  | true =>
    rw [ho, Bool.and_true] at h2
    exact sd_in (isIn_or ho) (c.good h2) c.pf.defs c.pf.clss c.uni ha hb (no_behind h1)
/-- the translation is right at n -/
structure Snd (G : Gl) (cl : CallF) (fdm : Str → FuncData) (n : Nat) : Prop where
  e : ∀ {tc X W f k}, CxE G cl fdm tc X W f k → ∀ e, PE X e (TV X f.Bs W (evE G cl f.base (trE n tc e)))
  p : ∀ {tc X W f k}, CxE G cl fdm tc X W f k → ∀ e, isProd e = true → PE X e (TN X f.Bs W (evE G cl f.base (trN n tc e)))
  v : ∀ {tc X W f k}, CxE G cl fdm tc X W f k → ∀ e, PE X e (TV X f.Bs W (evE G cl f.base (trV n tc e)))
  b : ∀ {tc X W f k}, CxE G cl fdm tc X W f k → ∀ op vs pos, PE X (.BoolOp op vs pos) (TV X f.Bs W (evE G cl f.base (trBool n tc op vs)))
  t : ∀ {tc X W f k}, CxE G cl fdm tc X W f k → ∀ e, PT X e (TB X f.Bs W (evE G cl f.base (trT n tc e)))
  bt : ∀ {tc X W f k}, CxE G cl fdm tc X W f k → ∀ op vs pos, vs ≠ [] → PW X (.BoolOp op vs pos) (TB X f.Bs W (evE G cl f.base (trBoolT n tc op vs)))
  es : ∀ {tc X W f k}, CxE G cl fdm tc X W f k → ∀ es, PA X es (TL X f.Bs W (evEs G cl f.base (trEs n tc es)))
  ks : ∀ {tc X W f k}, CxE G cl fdm tc X W f k → ∀ kws, PK X kws (TL X f.Bs W (evEs G cl f.base (trKs n tc kws)))
  o : ∀ {tc X W f k}, CxE G cl fdm tc X W f k → ∀ o, PO X o (TOo X f.Bs W (evO G cl f.base (trO n tc o)))
  cf : ∀ {tc X W f k}, CxE G cl fdm tc X W f k → ∀ x fn es kws p pos, tc.glob x = some (.fn fn) → PE X (.Call (.Name x p) es kws pos) (TV X f.Bs W (evE G cl f.base (trCall n tc fn es kws)))
  cc : ∀ {tc X W f k}, CxE G cl fdm tc X W f k → ∀ x C es kws p pos, tc.glob x = some (.cls C) → PE X (.Call (.Name x p) es kws pos) (TV X f.Bs W (evE G cl f.base (trCall n tc C es kws)))
  isi : ∀ {tc X W f k}, CxE G cl fdm tc X W f k → ∀ x es p pos, isBi tc x "isinstance" = true → PE X (.Call (.Name x p) es [] pos) (TV X f.Bs W (evE G cl f.base (trIsi n tc es)))
  it : ∀ {tc X W f k}, CxE G cl fdm tc X W f k → ∀ tg it, PI X tg it (TIt X f.Bs W (evI G cl f.base (trIt n tc tg it)))
section
variable {G : Gl} {cl : CallF} {fdm : Str → FuncData} {n : Nat}
theorem Snd.e_ (S : Snd G cl fdm n) {tc : Tc} {X : Cx} {W : WX} {f : Fr} {k : Nat} (c : CxE G cl fdm tc X W f k) (e : Expr) : PE X e (TV X f.Bs W (evE G cl f.base (trE (n + 1) tc e))) := by
  unfold trE
  split
  · rename_i hp
    split
    · exact EV.PE.cel (S.p c e hp)
    · exact EV.PE.fz (S.p c e hp)
  · exact S.v c e
theorem Snd.b_ (S : Snd G cl fdm n) {tc : Tc} {X : Cx} {W : WX} {f : Fr} {k : Nat} (c : CxE G cl fdm tc X W f k) (op : BoolOp) (vs : List Expr) (pos : Pos) : PE X (.BoolOp op vs pos) (TV X f.Bs W (evE G cl f.base (trBool (n + 1) tc op vs))) := by
  unfold trBool
  split
  · exact bad_pe
  · exact pe_one (S.e c _)
  · split
    · exact sd_and (S.e c _) (S.b c _ _ _)
    · exact sd_or (S.e c _) (S.b c _ _ _)
theorem Snd.bt_ (S : Snd G cl fdm n) {tc : Tc} {X : Cx} {W : WX} {f : Fr} {k : Nat} (c : CxE G cl fdm tc X W f k) (op : BoolOp) (vs : List Expr) (pos : Pos) (h : vs ≠ []) : PW X (.BoolOp op vs pos) (TB X f.Bs W (evE G cl f.base (trBoolT (n + 1) tc op vs))) := by
  unfold trBoolT
  split
  · exact absurd rfl h
  · cases op with
    | And => exact sd_tand1 (S.t c _)
    | Or => exact sd_tor1 (S.t c _)
  · split
    · exact sd_tand (S.t c _) (S.bt c _ _ _ (by simp))
    · exact sd_tor (S.t c _) (S.bt c _ _ _ (by simp))
theorem Snd.es_ (S : Snd G cl fdm n) {tc : Tc} {X : Cx} {W : WX} {f : Fr} {k : Nat} (c : CxE G cl fdm tc X W f k) (es : List Expr) : PA X es (TL X f.Bs W (evEs G cl f.base (trEs (n + 1) tc es))) := by
  cases es with
  | nil => exact sd_nil
  | cons e r =>
    by_cases h : isStar e = true
    · cases e <;> first
        | exact sd_star (S.e c _) (S.es c _) rfl
        | cases h
    · have h : isStar e = false := by simpa using h
      have : trEs (n + 1) tc (e :: r) = .cons (trE n tc e) (trEs n tc r) := by
        cases e <;> first | rfl | cases h
      rw [this]
      exact sd_cons (S.e c _) (S.es c _) (star_plain h)
theorem Snd.ks_ (S : Snd G cl fdm n) {tc : Tc} {X : Cx} {W : WX} {f : Fr} {k : Nat} (c : CxE G cl fdm tc X W f k) (kws : List Keyword) : PK X kws (TL X f.Bs W (evEs G cl f.base (trKs (n + 1) tc kws))) := by
  cases kws with
  | nil => exact sk_nil
  | cons kw r =>
    obtain ⟨nm, e, p⟩ := kw
    exact sk_cons (S.e c _) (S.ks c _)
theorem Snd.o_ (S : Snd G cl fdm n) {tc : Tc} {X : Cx} {W : WX} {f : Fr} {k : Nat} (c : CxE G cl fdm tc X W f k) (o : Option Expr) : PO X o (TOo X f.Bs W (evO G cl f.base (trO (n + 1) tc o))) := by
  cases o with
  | none => exact sd_ono
  | some e => exact sd_oyes (S.e c _)
theorem Snd.t_ (S : Snd G cl fdm n) {tc : Tc} {X : Cx} {W : WX} {f : Fr} {k : Nat} (c : CxE G cl fdm tc X W f k) (e : Expr) : PT X e (TB X f.Bs W (evE G cl f.base (trT (n + 1) tc e))) := by
  have pl : isTst e = false → trT (n + 1) tc e = trE n tc e → PT X e (TB X f.Bs W (evE G cl f.base (trT (n + 1) tc e))) := fun h1 h2 => by
    rw [h2]
    exact sd_test (S.e c _) (true_plain h1)
  cases e with
  | IfExp => exact bad_pt
  | UnaryOp op a p =>
    cases op with
    | Not => exact sd_tnot (S.t c _)
    | _ => exact pl rfl rfl
  | BoolOp op vs p =>
    cases vs with
    | nil =>
      cases n with
      | zero => exact bad_pt
      | succ n => exact bad_pt
    | cons a r => exact (S.bt c op (a :: r) p (by simp)).pt
  | Compare a ops bs p =>
    unfold trT
    simp only
    split
    · split
      · exact bad_pt
      · rename_i h
        exact (cmp_both c h (S.e c _) (S.e c _)).2
    · split
      · exact bad_pt
      · rename_i h
        exact (sd_chn c.uni (S.e c _) (S.e c _) (S.e c _) (no_behind (by simpa using h))).2
    · exact bad_pt
  | _ => exact pl rfl rfl
end
end EV
/-! TrD: values, calls, what is walked. -/
namespace EV
open PySem PySem.Spec PyProof.Rows L2

section
variable {G : Gl} {cl : CallF} {fdm : Str → FuncData} {n : Nat} {tc : Tc} {X : Cx} {W : WX} {f : Fr} {k : Nat}
theorem es_nil0 : ∀ (n : Nat) (tc : Tc), trEs n tc [] = .nil
  | 0, _ => rfl
  | _ + 1, _ => rfl
theorem ks_nil0 : ∀ (n : Nat) (tc : Tc), trKs n tc [] = .nil
  | 0, _ => rfl
  | _ + 1, _ => rfl
/-- the shape of a call whose arguments were looked at -/
theorem shape_call {es : List Expr} {kws : List Keyword} {ks : List Str} {pos : Pos} (hk : kwNames kws = some ks) (h : okStars es kws = true) : Shape X pos es kws ks := by
  unfold okStars at h
  rw [Bool.or_eq_true] at h
  by_cases h1 : es.any isStar = true
  · have h2 := h.resolve_left (by rw [h1]; simp)
    obtain ⟨h3, h4⟩ := and2 h2
    cases es with
    | nil => cases h4
    | cons e r =>
      have he : isStar e = false := by
        have h4 : (!isStar e) = true := h4
        simpa using h4
      have hr : r.any isStar = true := by
        have : (isStar e || r.any isStar) = true := h1
        rw [he] at this
        exact this
      cases kws with
      | nil => exact shape_of hk (.inr ⟨e, r, rfl, he, hr, rfl⟩)
      | cons _ _ => cases h3
  · exact shape_of hk (.inl (by simpa using h1))
theorem Snd.cf_ (S : Snd G cl fdm n) (hes : trEs n tc [] = .nil) (hks : trKs n tc [] = .nil) (c : CxE G cl fdm tc X W f k) (x fn : Str) (es : List Expr) (kws : List Keyword) (p pos : Pos) (h : tc.glob x = some (.fn fn)) :
    PE X (.Call (.Name x p) es kws pos) (TV X f.Bs W (evE G cl f.base (trCall (n + 1) tc fn es kws))) := by
  obtain ⟨hg, hn, hdb, _⟩ := glob_ok c h
  obtain ⟨d, hd, hcl, hm, _⟩ := c.pf.names _ _ hn
  unfold trCall
  split
  · exact bad_pe
  · rename_i hh
    split
    · rename_i ks hk
      split
      · rename_i hs
        exact sd_call (c.good (by simpa using hh)) c.pf.defs hd hcl hg hm hdb (shape_call hk hs) (S.es c es) (S.ks c kws) (fun e => by rw [e]; exact hes) (fun e => by rw [e]; exact hks)
      · exact bad_pe
    · exact bad_pe
theorem Snd.cc_ (S : Snd G cl fdm n) (hes : trEs n tc [] = .nil) (hks : trKs n tc [] = .nil) (c : CxE G cl fdm tc X W f k) (x C : Str) (es : List Expr) (kws : List Keyword) (p pos : Pos) (h : tc.glob x = some (.cls C)) :
    PE X (.Call (.Name x p) es kws pos) (TV X f.Bs W (evE G cl f.base (trCall (n + 1) tc C es kws))) := by
  obtain ⟨hg, hn, hdb, _⟩ := glob_ok c h
  obtain ⟨d, i, hd, hi, hm⟩ := c.pf.names _ _ hn
  unfold trCall
  split
  · exact bad_pe
  · rename_i hh
    split
    · rename_i ks hk
      split
      · rename_i hs
        exact sd_new (c.good (by simpa using hh)) c.pf.defs c.pf.clss hd hi hg hm hdb (shape_call hk hs) (S.es c es) (S.ks c kws) (fun e => by rw [e]; exact hes) (fun e => by rw [e]; exact hks)
      · exact bad_pe
    · exact bad_pe
/-- a class's name as isinstance takes it -/
theorem ty_ok (c : CxE G cl fdm tc X W f k) {x : Str} {p : Pos} {t : Ty} (h : tyOf tc x = some t) : PE X (.Name x p) (tC (tyV' X.K t)) := by
  unfold tyOf at h
  split at h
  · rename_i e
    split at h
    · cases h
    obtain ⟨hg, hn, hdb, hx⟩ := glob_ok c e
    have hm : X.mg x = none := c.pf.names _ _ hn
    have go : ∀ (y : String) (ht : tyV' X.K t = .ty y) (hb : bootBuiltins x = some (.type y)), PE X (.Name x p) (tC (tyV' X.K t)) := fun y ht hb => by
      rw [ht]
      exact pe_bltn hg hm hb rfl hx hdb
    split at h
    · rename_i e1
      cases h
      exact go "str" rfl (by rw [e1]; rfl)
    · split at h
      · rename_i e1
        cases h
        exact go "int" rfl (by rw [e1]; rfl)
      · split at h
        · rename_i e1
          cases h
          exact go "bool" rfl (by rw [e1]; rfl)
        · split at h
          · rename_i e1
            cases h
            exact go "tuple" rfl (by rw [e1]; rfl)
          · split at h
            · rename_i e1
              cases h
              exact go "list" rfl (by rw [e1]; rfl)
            · cases h
  · rename_i C e
    obtain ⟨hg, hn, hdb, hx⟩ := glob_ok c e
    obtain ⟨d, i, hd, hi, hm⟩ := c.pf.names _ _ hn
    split at h
    · cases h
    · cases h
      exact pe_glob hg hm rfl hdb
  · rename_i C e
    obtain ⟨hg, hn, hdb, hx⟩ := glob_ok c e
    obtain ⟨i, hi, hm⟩ := c.pf.names _ _ hn
    split at h
    · cases h
      exact pe_glob hg hm rfl hdb
    · cases h
  · cases h
theorem tys_ok (c : CxE G cl fdm tc X W f k) : ∀ {es : List Expr} {ts : List Ty}, tyAll tc es = some ts → PA X es (fun σ H Q => Q (ts.map (tyV' X.K)) H)
  | [], ts, h => by
    cases h
    exact PA.imp pa_nil fun σ H Q q => q
  | e :: r, ts, h => by
    cases e with
    | Name x p =>
      unfold tyAll at h
      cases e1 : tyOf tc x with
      | none => simp [e1] at h
      | some t =>
        cases e2 : tyAll tc r with
        | none => simp [e1, e2] at h
        | some us =>
          simp only [e1, e2] at h
          cases h
          exact PA.imp (pa_cons (ty_ok c e1) (tys_ok c e2) (star_plain rfl)) fun σ H Q q => q
    | _ => cases h
theorem tys_len : ∀ {es : List Expr} {ts : List Ty}, tyAll tc es = some ts → ts.length = es.length
  | [], ts, h => by
    cases h
    rfl
  | e :: r, ts, h => by
    cases e with
    | Name x p =>
      unfold tyAll at h
      cases e1 : tyOf tc x with
      | none => simp [e1] at h
      | some t =>
        cases e2 : tyAll tc r with
        | none => simp [e1, e2] at h
        | some us =>
          simp only [e1, e2] at h
          cases h
          exact congrArg (· + 1) (tys_len e2)
    | _ => cases h
theorem boot_isi : bootBuiltins ("isinstance" : Str) = some (.builtin "isinstance") := rfl
theorem Snd.isi_ (S : Snd G cl fdm n) (c : CxE G cl fdm tc X W f k) (x : Str) (es : List Expr) (p pos : Pos) (h : isBi tc x "isinstance" = true) : PE X (.Call (.Name x p) es [] pos) (TV X f.Bs W (evE G cl f.base (trIsi (n + 1) tc es))) := by
  obtain ⟨ex, hg, hm, hdb, hx⟩ := isBi_ok c h
  subst ex
  unfold trIsi
  split
  · rename_i e y q
    split
    · exact bad_pe
    · rename_i hs
      have hs : isStar e = false := by simpa using hs
      split
      · rename_i t ht
        split
        · rename_i hot
          obtain ⟨Y, a, oe, cls, d, pn, rfl, hz, hf, hxo⟩ := c.held hot
          have htc : ∃ D, t = .cls D := by
            unfold tyOf at ht
            split at ht
            · rw [if_pos hot] at ht
              cases ht
            · rw [if_pos hot] at ht
              cases ht
            · rw [if_pos hot] at ht
              cases ht
              exact ⟨_, rfl⟩
            · cases ht
          obtain ⟨D, rfl⟩ := htc
          exact sd_isx c.pf.exs hz hf hxo hg hm boot_isi (S.e c e) (ty_ok c ht) (star_plain hs) (star_plain rfl) rfl
        · exact sd_isi1 c.pf.clss c.pf.isok hg hm boot_isi (S.e c e) (ty_ok c ht) (star_plain hs) (star_plain rfl) rfl
      · exact bad_pe
  · rename_i e ys q1 q2
    split
    · exact bad_pe
    · rename_i hs
      simp only [Bool.or_eq_true, not_or, Bool.not_eq_true, Bool.not_eq_false', decide_eq_true_eq] at hs
      split
      · rename_i ts ht
        have h0 : ts ≠ [] := fun z => by
          subst z
          have := tys_len ht
          cases ys with
          | nil => simp at hs
          | cons _ _ => cases this
        refine sd_isiT c.pf.clss c.pf.isok h0 hg hm boot_isi (S.e c e) ?_ (star_plain hs.1.1.1) (star_plain rfl) rfl
        refine PE.imp (pe_tup (tys_ok c ht)) fun σ H Q q => ⟨?_, q⟩
        rw [List.length_map, tys_len ht, sizeLine_eq]
        omega
      · exact bad_pe
  · exact bad_pe
/-- a method's form -/
theorem form_ok {es : List Expr} {kws : List Keyword} {ks : List Str} {pos : Pos} {env : Env} (hk : kwNames kws = some ks) (hs : es.any isStar = false) (hl : es.length + kws.length < 29) : methodCallForm (es.length + kws.length) (backTo pos (starEach es env)) (backToKw pos (keywordEach kws env)) = true := by
  unfold methodCallForm
  rw [star_all, hs, (kw_all pos env kws ks hk).1]
  have : es.length + kws.length + (if (backToKw pos (keywordEach kws env)).isEmpty = true then 0 else 1) < 30 := by
    split <;> omega
  rw [decide_eq_true this]
  rfl
theorem few_ok {e : Expr} {es : List Expr} {pos : Pos} {env : Env} (hs : (e :: es).any isStar = false) (hl : (e :: es).length < 29) :
    ((backTo pos (starEach (e :: es) env)).all (fun x => !x.1) && (backToKw pos (keywordEach [] env)).all (fun x => x.1.isSome) && decide ((e :: es).length + ([] : List Keyword).length + (if ([] : List Keyword).isEmpty then 0 else 1) < 30)) = true := by
  rw [star_all, hs]
  have : (e :: es).length + ([] : List Keyword).length + (if ([] : List Keyword).isEmpty then 0 else 1) < 30 := by
    simp only [List.length_nil, List.isEmpty_nil, if_true]
    omega
  rw [decide_eq_true this]
  rfl
theorem isStar_head {e : Expr} {es : List Expr} (h : (e :: es).any isStar = false) : isStar e = false ∧ es.any isStar = false := by
  have h : (isStar e || es.any isStar) = false := h
  rwa [Bool.or_eq_false_iff] at h
theorem Snd.v_ (S : Snd G cl fdm n) (hes : trEs n tc [] = .nil) (hks : trKs n tc [] = .nil) (c : CxE G cl fdm tc X W f k) (e : Expr) : PE X e (TV X f.Bs W (evE G cl f.base (trV (n + 1) tc e))) := by
  cases e with
  | Name x p =>
    unfold trV
    simp only
    split
    · rename_i i h
      obtain ⟨h1, h2, h3, h4⟩ := slot_ok c h
      exact sd_var h1 h2 h3 h4
    · split
      · rename_i v h
        obtain ⟨hg, hn, hdb, _⟩ := glob_ok c h
        obtain ⟨u, y, hm, hr, hv⟩ := c.pf.names _ _ hn
        exact sd_const (pe_glob hg hm hr hdb) hv
      · rename_i fn h
        obtain ⟨hg, hn, hdb, _⟩ := glob_ok c h
        obtain ⟨d, hd, hcl, hm, ha⟩ := c.pf.names _ _ hn
        exact sd_const (pe_glob (v := .ref (He.ga X.K fn)) hg hm (by rw [ha]; rfl) hdb) fun w => .glo fn
      · exact bad_pe
  | Constant cc kk p =>
    unfold trV
    cases cc with
    | int i => exact sd_const pe_int fun w => .int i
    | str s => exact sd_const pe_str fun w => ofS_rep s
    | bool b => exact sd_const pe_bl fun w => .bl b
    | none => exact sd_const pe_non fun w => .non
    | _ => exact bad_pe
  | Tuple es kk p => exact sd_tup (S.es c es)
  | UnaryOp op a p =>
    unfold trV
    cases op with
    | Not => exact sd_not (S.e c a)
    | USub => exact sd_neg (S.e c a)
    | _ => exact bad_pe
  | BoolOp op vs p => exact S.b c op vs p
  | IfExp cc a b p => exact sd_ite (S.t c cc) (S.e c a) (S.e c b)
  | Compare a ops bs p =>
    unfold trV
    simp only
    split
    · split
      · exact bad_pe
      · rename_i h
        exact (cmp_both c h (S.e c _) (S.e c _)).1
    · split
      · exact bad_pe
      · rename_i h
        exact (sd_chn c.uni (S.e c _) (S.e c _) (S.e c _) (no_behind (by simpa using h))).1
    · exact bad_pe
  | Subscript a i p =>
    unfold trV
    simp only
    split
    · exact bad_pe
    · rename_i h
      exact sd_idx c.uni (S.e c a) (S.e c i) (plain_ix (by simpa using h))
  | Attribute o x p =>
    unfold trV
    simp only
    split
    · exact bad_pe
    · rename_i h
      have h : isSuper o = false := by simpa using h
      split
      · rename_i hot
        have ho := S.e c o
        obtain ⟨Y, a, oe, cls, d, pn, rfl, hz, hf, hxo⟩ := c.held hot
        exact sd_xat c.pf.exs hz hf hxo ho (base_plain h)
      · exact sd_att c.pf.clss c.pf.flds (S.e c o) (base_plain h)
  | Call fe es kws pos =>
    have sub : ∀ (o : Expr) (hcall : ∀ (s : Shared) (Q : Value → Shared → Prop), wpAny (model X.prog X.w) X.A (eval o X.env) (fun f s₁ => wpAny (model X.prog X.w) X.A (callWith pos f [] (backTo pos (starEach es X.env)) (backToKw pos (keywordEach [] X.env))) Q X.xe s₁) X.xe s →
      wpAny (model X.prog X.w) X.A (eval (.Call o es [] pos) X.env) Q X.xe s) (co : E) (ho : PE X o (TV X f.Bs W (evE G cl f.base co))), tc.hot = false → es.any isStar = false → PE X (.Call o es [] pos) (TV X f.Bs W (evE G cl f.base (.clv co (trEs n tc es)))) := fun o hcall co ho hot hs =>
      sd_clv (c.good hot) c.pf.defs ho (shape_of rfl (.inl hs)) (S.es c es) (fun e => by rw [e]; exact hes) hcall
    cases fe with
    | Name x p =>
      unfold trV
      simp only
      split
      · rename_i hi
        split
        · rename_i hk
          cases kws with
          | nil => exact S.isi c x es p pos hi
          | cons _ _ => cases hk
        · exact bad_pe
      · split
        · rename_i i h
          split
          · exact bad_pe
          · rename_i hc
            simp only [Bool.or_eq_true, not_or, Bool.not_eq_true, Bool.not_eq_true', Bool.not_eq_false] at hc
            cases kws with
            | nil =>
              obtain ⟨h1, h2, h3, h4⟩ := slot_ok c h
              exact sub (.Name x p) (fun s Q q => wpAny_Call_Name_kw q) (.var i) (sd_var h1 h2 h3 h4) hc.1.1 hc.1.2
            | cons _ _ => exact absurd hc.2 (by simp)
        · split
          · rename_i fn h
            exact S.cf c x fn es kws p pos h
          · rename_i C h
            exact S.cc c x C es kws p pos h
          · exact bad_pe
    | Attribute o m apos =>
      unfold trV
      simp only
      split
      · exact bad_pe
      · rename_i hc
        simp only [Bool.or_eq_true, not_or, Bool.not_eq_true, Bool.not_eq_true', Bool.not_eq_false, decide_eq_true_eq] at hc
        obtain ⟨⟨⟨⟨hot, hs⟩, hl⟩, hsu⟩, hlen⟩ := hc
        have g := c.good hot
        split
        · rename_i hp
          simp only [Bool.and_eq_true, decide_eq_true_eq] at hp
          obtain ⟨⟨h1, h2⟩, h3⟩ := hp
          subst h1
          cases es with
          | nil =>
            cases kws with
            | nil => exact sd_pop c.fok.top PySem.F.plainAttrs_list PySem.F.slot_list_pop PySem.F.type_list_pop (S.e c o) (base_plain hsu) hl
            | cons _ _ => cases h3
          | cons _ _ => cases h2
        · split
          · rename_i ks hk
            exact sd_mth g c.pf.defs c.pf.clss (S.e c o) (shape_of hk (.inl hs)) (S.es c es) (S.ks c kws) (fun e => by rw [e]; exact hes) (fun e => by rw [e]; exact hks) (call_method_eq hsu (form_ok hk hs hlen) hl)
          · exact bad_pe
    | Subscript a i p =>
      unfold trV
      simp only
      split
      · exact bad_pe
      · rename_i hc
        simp only [Bool.or_eq_true, not_or, Bool.not_eq_true, Bool.not_eq_true', Bool.not_eq_false] at hc
        cases kws with
        | nil => exact sub (.Subscript a i p) (fun s Q q => Call_ q rfl) _ (S.e c _) hc.1.1 hc.1.2
        | cons _ _ => exact absurd hc.2 (by simp)
    | _ => exact bad_pe
  | _ => exact bad_pe
end
end EV
/-! TrE: what makes a value anew; the translation of expressions at every n. -/
namespace EV
open PySem PySem.Spec PyProof.Rows L2

section
variable {G : Gl} {cl : CallF} {fdm : Str → FuncData} {n : Nat} {tc : Tc} {X : Cx} {W : WX} {f : Fr} {k : Nat}
theorem pi_bad {tg e : Expr} : PI X tg e (TIt X f.Bs W (evI G cl f.base (.seq bad))) := bad_pi
theorem rI_blk {Bs : BX} {s : Shared} {H : Hp} {scope : Scope} {env : Env} {fp : List Addr} : rI (X.blk s H scope env fp) Bs = rI X Bs := by
  funext w cs src J
  exact propext ⟨fun h => ⟨h.go, h.stop⟩, fun h => ⟨h.go, h.stop⟩⟩
/-- within a comprehension -/
theorem CxE.blk (c : CxE G cl fdm tc X W f k) (h : tc.hot = false) {scope : Scope} (s : Shared) (H : Hp) (C : Addr) (clo : List (Str × Addr)) (fp : List Addr) : CxE G cl fdm { tc with sc := relS scope tc.sc, top := topOf scope } (Blk X scope s H C clo fp) WF f k where
  pf := c.pf
  N := c.N
  sc := by
    show relabel scope X.env = relS scope tc.sc
    rw [← c.sc]
    rfl
  nd := c.nd
  fok := c.fok
  uni := c.uni
  gd := c.gd
  fnl := fun x h => h
  good := fun _ =>
    let g := c.good h
    ⟨g.hN, g.hf, g.calm, g.room, g.gd, fun u s' ⟨a, B, sI, pins, σ, H, cls, d, e, I, nb, up, sky, na, os, ag, w⟩ => (show False from w).elim, PassesOwn.never, g.call⟩
  held := fun y => by
    have y : tc.hot = true := y
    rw [h] at y
    cases y
theorem Snd.oc_ (S : Snd G cl fdm n) (c : CxE G cl fdm tc X WF f k) {ifs : List Expr} {o : Oe} (h : trIf (n + 1) tc ifs = some o) : OcOk X f.Bs G cl f.base ifs o := by
  unfold trIf at h
  split at h
  · cases h
    exact rfl
  · cases h
    exact ⟨_, rfl, S.t c _⟩
  · cases h
theorem slots_in {t : Tg} {own : List (Str × Nat)} (h : slotsIn t own = true) : ∀ i ∈ t.slots, i ∈ own.map (·.2) := fun i hi => by
  have := List.all_eq_true.mp h i hi
  simpa using this
theorem Snd.oc (S : ∀ m ≤ n, Snd G cl fdm m) (c : CxE G cl fdm tc X WF f k) {ifs : List Expr} {o : Oe} (h : trIf n tc ifs = some o) : OcOk X f.Bs G cl f.base ifs o := by
  cases n with
  | zero => cases h
  | succ n => exact (S n (Nat.le_succ n)).oc_ c h
theorem nohot {b : Bool} (h : ¬ b = true) : b = false := by simpa using h
theorem Snd.cl_ (S : ∀ m ≤ n, Snd G cl fdm m) (c : CxE G cl fdm tc X W f k) (hh : tc.hot = false) {scope : Scope} {elt : Expr} {gens : List Comprehension} {q : Cl} {pos : Pos} (ok : blkC tc.N tc.sc scope (ownOf tc.N scope) = true) (h : trCl n tc { tc with sc := relS scope tc.sc, top := topOf scope } (ownOf tc.N scope) gens = some q) {el : E}
    (he : ∀ s H C clo fp, PE (Blk X scope s H C clo fp) elt (T X.K f.Bs (rV X.K) WF (evE G cl f.base el))) :
    PE X (.ListComp elt gens scope pos) (TN X f.Bs W (evE G cl f.base (.lc el ((ownOf tc.N scope).map (·.2)) q))) := by
  have hb : BlkOk X.N X.env.scope scope (ownOf tc.N scope) := blkOk_by (by rw [c.N, c.sc]; exact ok)
  have hc : X.calm = true := (c.good hh).calm
  cases n with
  | zero => cases h
  | succ n =>
    unfold trCl at h
    split at h
    · rename_i tg it ifs
      split at h
      · rename_i t o ht ho
        split at h
        · rename_i hs
          cases h
          obtain ⟨h1, h2⟩ := and2 hs
          exact sd_lc hc c.nd (slots_in h1) ((S n (Nat.le_succ n)).it c tg it) hb (fun s H C clo fp => tg_ok (c.blk hh s H C clo fp) hc ht) (fun s H C clo fp => Snd.oc (fun m hm => S m (Nat.le_succ_of_le hm)) (c.blk hh s H C clo fp) ho) he (fold_plain (by simpa using h2))
        · cases h
      · cases h
    · rename_i tg it ifs tg1 it1 ifs1
      split at h
      · rename_i t o t1 o1 ht ho ht1 ho1
        split at h
        · rename_i hs
          cases h
          obtain ⟨hs, h4⟩ := and2 hs
          obtain ⟨hs, h3⟩ := and2 hs
          obtain ⟨h1, h2⟩ := and2 hs
          refine PE.imp (pe_lc2 (tt := oTst X.K f.Bs G cl f.base o) (tt1 := oTst X.K f.Bs G cl f.base o1) hc c.nd ((S n (Nat.le_succ n)).it c tg it) hb (slots_in h2) (fun s H C clo fp => tg_ok (c.blk hh s H C clo fp) hc ht) (fun s H C clo fp => (Snd.oc (fun m hm => S m (Nat.le_succ_of_le hm)) (c.blk hh s H C clo fp) ho).pts)
            (fun s H C clo fp => ?_) (fun s H C clo fp => tg_ok (c.blk hh s H C clo fp) hc ht1) (fun s H C clo fp => (Snd.oc (fun m hm => S m (Nat.le_succ_of_le hm)) (c.blk hh s H C clo fp) ho1).pts) he (fold_plain (by simpa using h3)) (fun env => fold_plain (by simpa using h4))) fun σ H Q h => lc_two (slots_in h1) h
          have := (S n (Nat.le_succ n)).it (c.blk (scope := scope) hh s H C clo fp) tg1 it1
          unfold TIt at this
          rw [rI_blk] at this
          exact this
        · cases h
      · cases h
    · cases h
theorem Snd.dc_ (S : ∀ m ≤ n, Snd G cl fdm m) (c : CxE G cl fdm tc X W f k) (hh : tc.hot = false) {scope : Scope} {kx vx : Expr} {gens : List Comprehension} {t : Tg} {it : EV.It} {o : Oe} {pos : Pos} (ok : blkC tc.N tc.sc scope (ownOf tc.N scope) = true) (h : trCl n tc { tc with sc := relS scope tc.sc, top := topOf scope } (ownOf tc.N scope) gens = some (.one t it o)) {ek ev : E}
    (hk : ∀ s H C clo fp, PE (Blk X scope s H C clo fp) kx (T X.K f.Bs (rV X.K) WF (evE G cl f.base ek))) (hv : ∀ s H C clo fp, PE (Blk X scope s H C clo fp) vx (T X.K f.Bs (rV X.K) WF (evE G cl f.base ev))) :
    PE X (.DictComp kx vx gens scope pos) (TN X f.Bs W (evE G cl f.base (.dc ek ev ((ownOf tc.N scope).map (·.2)) (.one t it o)))) := by
  have hb : BlkOk X.N X.env.scope scope (ownOf tc.N scope) := blkOk_by (by rw [c.N, c.sc]; exact ok)
  have hc : X.calm = true := (c.good hh).calm
  cases n with
  | zero => cases h
  | succ n =>
    unfold trCl at h
    split at h
    · rename_i tg it' ifs
      split at h
      · rename_i t o ht ho
        split at h
        · rename_i hs
          cases h
          obtain ⟨h1, h2⟩ := and2 hs
          exact sd_dc hc c.nd (slots_in h1) ((S n (Nat.le_succ n)).it c tg it') hb (fun s H C clo fp => tg_ok (c.blk hh s H C clo fp) hc ht) (fun s H C clo fp => Snd.oc (fun m hm => S m (Nat.le_succ_of_le hm)) (c.blk hh s H C clo fp) ho) hk hv (fold_plain (by simpa using h2))
        · cases h
      · cases h
    · split at h
      · split at h
        · cases h
        · cases h
      · cases h
    · cases h
/-- the clauses within a set comprehension -/
theorem Snd.cs_ {ti : Tc} {scope : Scope} (hc : X.calm = true) (hb : ∀ s H C clo fp, CxE G cl fdm ti (Blk X scope s H C clo fp) WF f k) : ∀ (n : Nat) (S : ∀ m ≤ n, Snd G cl fdm m) {gens : List Comprehension} {q : Cl}, trCs n ti gens = some q →
    ∃ es : List Ge, es.length = clLen q ∧ gens = (csOf X f.Bs G cl f.base q es).map Cs.gen ∧ ∀ s H C clo fp, ∀ c' ∈ csOf X f.Bs G cl f.base q es, CsOk (Blk X scope s H C clo fp) c'
  | 0, _, _, _, h => nomatch h
  | n + 1, S, gens, q, h => by
    have one : ∀ (tg it : Expr) (ifs : List Expr) (t : Tg) (o : Oe) (vs : List Nat), trTg ti tg = some t → trIf n ti ifs = some o → isSet it = false → ∀ s H C clo fp, CsOk (Blk X scope s H C clo fp) ⟨tg, it, ifs, T X.K f.Bs (rI X f.Bs) WF (evI G cl f.base (trIt n ti tg it)), gTg X f.Bs t, oTst X.K f.Bs G cl f.base o, vs⟩ := fun tg it ifs t o vs ht ho hi s H C clo fp => by
      refine ⟨?_, tg_ok (hb s H C clo fp) hc ht, (Snd.oc (fun m hm => S m (Nat.le_succ_of_le hm)) (hb s H C clo fp) ho).pts, fun env => fold_plain hi⟩
      have := (S n (Nat.le_succ n)).it (hb s H C clo fp) tg it
      unfold TIt at this
      rw [rI_blk] at this
      exact this
    unfold trCs at h
    split at h
    · rename_i tg it ifs r
      split at h
      · rename_i t o ht ho
        split at h
        · cases h
        · rename_i hi
          have hi := nohot hi
          split at h
          · cases h
            refine ⟨[(tg, it, ifs)], rfl, rfl, fun s H C clo fp c' hc' => ?_⟩
            rw [List.mem_singleton.mp hc']
            exact one tg it ifs t o _ ht ho hi s H C clo fp
          · rename_i r1 r2
            split at h
            · rename_i q2 hq2
              cases h
              obtain ⟨es, h1, h2, h3⟩ := Snd.cs_ hc hb n (fun m hm => S m (Nat.le_succ_of_le hm)) hq2
              refine ⟨(tg, it, ifs) :: es, congrArg (· + 1) h1, ?_, fun s H C clo fp c' hc' => ?_⟩
              · rw [h2]
                rfl
              · rcases List.mem_cons.mp hc' with rfl | hc'
                · exact one tg it ifs t o _ ht ho hi s H C clo fp
                · exact h3 s H C clo fp c' hc'
            · cases h
      · cases h
    · cases h
    · cases h
theorem Snd.sc_ (S : ∀ m ≤ n, Snd G cl fdm m) (c : CxE G cl fdm tc X W f k) (hh : tc.hot = false) {scope : Scope} {elt : Expr} {gens : List Comprehension} {q : Cl} {p p2 pos : Pos} (hg : isBi tc "sorted" "sorted" = true) (ok : blkC tc.N tc.sc scope (ownOf tc.N scope) = true) (h : trSc n tc { tc with sc := relS scope tc.sc, top := topOf scope } (ownOf tc.N scope) gens = some q) {el : E}
    (he : ∀ s H C clo fp, PE (Blk X scope s H C clo fp) elt (T X.K f.Bs (rV X.K) WF (evE G cl f.base el))) :
    PE X (.Call (.Name "sorted" p) [.SetComp elt gens scope p2] [] pos) (TN X f.Bs W (evE G cl f.base (.ssc el ((ownOf tc.N scope).map (·.2)) q))) := by
  have hb : BlkOk X.N X.env.scope scope (ownOf tc.N scope) := blkOk_by (by rw [c.N, c.sc]; exact ok)
  have hc : X.calm = true := (c.good hh).calm
  obtain ⟨_, g1, g2, g3, g4⟩ := isBi_ok c hg
  cases n with
  | zero => cases h
  | succ n =>
    unfold trSc at h
    split at h
    · rename_i tg it ifs r
      split at h
      · rename_i t o ht ho
        split at h
        · rename_i hs
          obtain ⟨h1, h2⟩ := and2 hs
          have hfs : ∀ x, foldedSetIterable it X.env x = pure x := fold_plain (by simpa using h2)
          have hi := (S n (Nat.le_succ n)).it c tg it
          have hgg := fun s H C clo fp => tg_ok (c.blk (scope := scope) hh s H C clo fp) hc ht
          have hoo := fun s H C clo fp => Snd.oc (fun m hm => S m (Nat.le_succ_of_le hm)) (c.blk (scope := scope) hh s H C clo fp) ho
          split at h
          · cases h
            exact sd_ssc (es := []) (r := []) g1 g2 hc c.nd (.inl ⟨rfl, rfl, rfl⟩) (slots_in h1) hi hb hgg hoo (fun _ _ _ _ _ _ hc' => (by cases hc')) he hfs
          · split at h
            · rename_i q2 hq2
              split at h
              · rename_i hall
                cases h
                obtain ⟨es, e1, e2, e3⟩ := Snd.cs_ hc (fun s H C clo fp => c.blk (scope := scope) hh s H C clo fp) n (fun m hm => S m (Nat.le_succ_of_le hm)) hq2
                rw [e2]
                exact sd_ssc g1 g2 hc c.nd (.inr ⟨q2, rfl, e1, rfl, fun i hi => by simpa using List.all_eq_true.mp hall i hi⟩) (slots_in h1) hi hb hgg hoo e3 he hfs
              · cases h
            · cases h
        · cases h
      · cases h
    · cases h
    · cases h
theorem few_of {e : Expr} {es : List Expr} {pos : Pos} {env : Env} (hs : (e :: es).any isStar = false) : (backTo pos (starEach es env)).any (·.1) = false := by
  rw [star_any]
  exact (isStar_head hs).2
theorem Snd.blt_ (S : Snd G cl fdm n) (c : CxE G cl fdm tc X W f k) {x : Str} {b : Bn} {e : Expr} {es : List Expr} {p pos : Pos} (hb : bltOf x = some b) (hg : tc.glob x = some .bi) (hs : (e :: es).any isStar = false) (hh : tc.hot = false) :
    PE X (.Call (.Name x p) (e :: es) [] pos) (TN X f.Bs W (evE G cl f.base (.blt b (trEs n tc (e :: es))))) := by
  obtain ⟨g, hn, hdb, hx⟩ := glob_ok c hg
  have hm : X.mg x = none := c.pf.names _ _ hn
  have hc : X.calm = true := (c.good hh).calm
  have go : ∀ (hcr : CallR X (bltU b) (rBlt X f.Bs b)) (hv : bootBuiltins x = some (bltU b)), PE X (.Call (.Name x p) (e :: es) [] pos) (TN X f.Bs W (evE G cl f.base (.blt b (trEs n tc (e :: es))))) := fun hcr hv =>
    sd_blt c.pf.nosp hcr g hm hv (S.es c (e :: es)) hx hdb (star_plain (isStar_head hs).1) (few_of hs)
  unfold bltOf at hb
  by_cases h : x = "len"
  · rw [if_pos h] at hb
    cases hb
    subst h
    exact go cb_len rfl
  rw [if_neg h] at hb
  clear h
  by_cases h : x = "all"
  · rw [if_pos h] at hb
    cases hb
    subst h
    exact go (cb_all hc) rfl
  rw [if_neg h] at hb
  clear h
  by_cases h : x = "tuple"
  · rw [if_pos h] at hb
    cases hb
    subst h
    exact go cb_tuple rfl
  rw [if_neg h] at hb
  clear h
  by_cases h : x = "list"
  · rw [if_pos h] at hb
    cases hb
    subst h
    exact go cb_list rfl
  rw [if_neg h] at hb
  clear h
  by_cases h : x = "sorted"
  · rw [if_pos h] at hb
    cases hb
    subst h
    exact go (cb_sorted hc) rfl
  rw [if_neg h] at hb
  clear h
  by_cases h : x = "int"
  · rw [if_pos h] at hb
    cases hb
    subst h
    exact go cb_int rfl
  rw [if_neg h] at hb
  clear h
  by_cases h : x = "abs"
  · rw [if_pos h] at hb
    cases hb
    subst h
    exact go cb_abs rfl
  rw [if_neg h] at hb
  clear h
  by_cases h : x = "max"
  · rw [if_pos h] at hb
    cases hb
    subst h
    exact go (cb_max hc) rfl
  rw [if_neg h] at hb
  clear h
  by_cases h : x = "min"
  · rw [if_pos h] at hb
    cases hb
    subst h
    exact go (cb_min hc) rfl
  rw [if_neg h] at hb
  clear h
  by_cases h : x = "sum"
  · rw [if_pos h] at hb
    cases hb
    subst h
    exact go (cb_sum hc) rfl
  rw [if_neg h] at hb
  clear h
  by_cases h : x = "str"
  · rw [if_pos h] at hb
    cases hb
    subst h
    exact go cb_str rfl
  rw [if_neg h] at hb
  clear h
  cases hb
theorem Snd.bm_ (S : Snd G cl fdm n) (c : CxE G cl fdm tc X W f k) {o : Expr} {m : Str} {q : Mn} {e : Expr} {es : List Expr} {apos pos : Pos} (hm : mnOf m = some q) (hs : (e :: es).any isStar = false) (hl : (apos.endLine == pos.line) = true) (hsu : isSuper o = false) (hn : (e :: es).length < 29) :
    PE X (.Call (.Attribute o m apos) (e :: es) [] pos) (TN X f.Bs W (evE G cl f.base (.bm (trE n tc o) q (trEs n tc (e :: es))))) := by
  have goS : ∀ {id : String} (slot : Slot "str" m id) (hty : typeOf (.builtin id) = pure (.type "method_descriptor")) (hmr : MtR X id (rBm X f.Bs f.base q)) (hmt : q.mt = .s), PE X (.Call (.Attribute o m apos) (e :: es) [] pos) (TN X f.Bs W (evE G cl f.base (.bm (trE n tc o) q (trEs n tc (e :: es))))) := fun slot hty hmr hmt =>
    sd_bmS PySem.F.plainAttrs_str slot hty hmr hmt (S.e c o) (S.es c (e :: es)) (base_plain hsu) (few_ok hs hn) hl (star_plain (isStar_head hs).1) (few_of hs)
  have goL : ∀ {id : String} (slot : Slot "list" m id) (hty : typeOf (.builtin id) = pure (.type "method_descriptor")) (hmr : MtR X id (rBl X f.Bs f.base q)) (hmt : q.mt = .l), PE X (.Call (.Attribute o m apos) (e :: es) [] pos) (TN X f.Bs W (evE G cl f.base (.bm (trE n tc o) q (trEs n tc (e :: es))))) := fun slot hty hmr hmt =>
    sd_bmL PySem.F.plainAttrs_list slot hty hmr hmt (S.e c o) (S.es c (e :: es)) (base_plain hsu) (few_ok hs hn) hl (star_plain (isStar_head hs).1) (few_of hs)
  unfold mnOf at hm
  by_cases h : m = "append"
  · rw [if_pos h] at hm
    cases hm
    subst h
    exact goL PySem.F.slot_list_append PySem.F.type_list_append (mb_append c.fok.top) rfl
  rw [if_neg h] at hm
  clear h
  by_cases h : m = "extend"
  · rw [if_pos h] at hm
    cases hm
    subst h
    exact goL PySem.F.slot_list_extend PySem.F.type_list_extend (mb_extend c.fok.top) rfl
  rw [if_neg h] at hm
  clear h
  by_cases h : m = "partition"
  · rw [if_pos h] at hm
    cases hm
    subst h
    exact goS PySem.F.slot_str_partition PySem.F.type_str_partition mb_partition rfl
  rw [if_neg h] at hm
  clear h
  by_cases h : m = "split"
  · rw [if_pos h] at hm
    cases hm
    subst h
    exact goS PySem.F.slot_str_split PySem.F.type_str_split mb_split rfl
  rw [if_neg h] at hm
  clear h
  by_cases h : m = "startswith"
  · rw [if_pos h] at hm
    cases hm
    subst h
    exact goS PySem.F.slot_str_startswith PySem.F.type_str_startswith mb_startswith rfl
  rw [if_neg h] at hm
  clear h
  by_cases h : m = "endswith"
  · rw [if_pos h] at hm
    cases hm
    subst h
    exact goS PySem.F.slot_str_endswith PySem.F.type_str_endswith mb_endswith rfl
  rw [if_neg h] at hm
  clear h
  by_cases h : m = "rstrip"
  · rw [if_pos h] at hm
    cases hm
    subst h
    exact goS PySem.F.slot_str_rstrip PySem.F.type_str_rstrip mb_rstrip rfl
  rw [if_neg h] at hm
  clear h
  by_cases h : m = "index"
  · rw [if_pos h] at hm
    cases hm
    subst h
    exact goS PySem.F.slot_str_index PySem.F.type_str_index mb_index rfl
  rw [if_neg h] at hm
  clear h
  by_cases h : m = "join"
  · rw [if_pos h] at hm
    cases hm
    subst h
    exact goS PySem.F.slot_str_join PySem.F.type_str_join mb_join rfl
  rw [if_neg h] at hm
  clear h
  cases hm
theorem setArg_ok {es : List Expr} {a : Expr} (h : setArg tc es = some a) : ∃ y p q, es = [.Call (.Name y p) [a] [] q] ∧ isBi tc y "set" = true ∧ isStar a = false := by
  unfold setArg at h
  split at h
  · rename_i y p a' q
    split at h
    · rename_i hc
      cases h
      obtain ⟨h1, h2⟩ := and2 hc
      exact ⟨y, p, q, rfl, h1, by simpa using h2⟩
    · cases h
  · cases h
theorem setComp_ok {es : List Expr} {elt : Expr} {gens : List Comprehension} {scope : Scope} (h : setComp es = some (elt, gens, scope)) : ∃ p, es = [.SetComp elt gens scope p] := by
  unfold setComp at h
  split at h
  · cases h
    exact ⟨_, rfl⟩
  · cases h
theorem Snd.p_ (S : ∀ m ≤ n, Snd G cl fdm m) (c : CxE G cl fdm tc X W f k) (e : Expr) (hp : isProd e = true) : PE X e (TN X f.Bs W (evE G cl f.base (trN (n + 1) tc e))) := by
  have S0 := S n (Nat.le_refl n)
  cases e with
  | BinOp a op b p => exact sd_bin (S0.e c a) (S0.e c b)
  | List es p => exact sd_lst (S0.es c es)
  | Dict ks vs p =>
    cases ks with
    | nil =>
      cases vs with
      | nil => exact sd_dct0
      | cons _ _ => exact bad_pn
    | cons k1 ks =>
      unfold trN
      simp only
      split
      · exact absurd ‹k1 :: ks = []› (List.cons_ne_nil _ _)
      · rename_i kk m v z
        cases z
        exact sd_dmg (S0.e c _) (S0.e c _) (S0.e c _)
      · exact bad_pn
  | DictComp kx vx gens scope p =>
    unfold trN
    simp only
    split
    · exact bad_pn
    · rename_i hh
      have hh := nohot hh
      split
      · rename_i ok
        split
        · rename_i t it o hq
          exact Snd.dc_ S c hh ok hq (fun s H C clo fp => S0.e (c.blk hh s H C clo fp) kx) (fun s H C clo fp => S0.e (c.blk hh s H C clo fp) vx)
        · exact bad_pn
      · exact bad_pn
  | Subscript a i p =>
    cases i with
    | Slice lo hi st p2 =>
      cases st with
      | none => exact sd_slc (S0.e c a) (S0.o c lo) (S0.o c hi)
      | some _ => exact bad_pn
    | _ => cases hp
  | ListComp elt gens scope p =>
    unfold trN
    simp only
    split
    · exact bad_pn
    · rename_i hh
      have hh := nohot hh
      split
      · rename_i ok
        split
        · rename_i q hq
          exact Snd.cl_ S c hh ok hq fun s H C clo fp => S0.e (c.blk hh s H C clo fp) elt
        · exact bad_pn
      · exact bad_pn
  | Call fe es kws pos =>
    cases fe with
    | Name x p =>
      cases es with
      | nil => cases hp
      | cons e es =>
        cases kws with
        | cons _ _ => cases hp
        | nil =>
          unfold trN
          simp only
          split
          · rename_i hx
            obtain ⟨rfl, g1, g2, hdb, hx⟩ := isBi_ok c hx
            split
            · rename_i a z
              cases z
              split
              · exact bad_pn
              · rename_i hs
                exact sd_blt c.pf.nosp (cb_repr c.gd c.uni) g1 g2 rfl (S0.es c _) hx hdb (star_plain (nohot hs)) rfl
            · exact bad_pn
          rename_i hnr
          split
          · exact bad_pn
          · rename_i hh
            have hh := nohot hh
            split
            · rename_i a ha
              obtain ⟨y, q1, q2, ee, hb, hst⟩ := setArg_ok ha
              cases ee
              obtain ⟨rfl, g1, g2, _, _⟩ := isBi_ok c hb
              split
              · rename_i hx
                obtain ⟨rfl, g3, g4, _, _⟩ := isBi_ok c hx
                exact sd_sst (c.good hh).calm g3 g4 g1 g2 (S0.e c a) (star_plain hst)
              · split
                · rename_i hx
                  obtain ⟨rfl, g3, g4, _, _⟩ := isBi_ok c hx
                  exact sd_lns (c.good hh).calm g3 g4 g1 g2 (S0.e c a) (star_plain hst)
                · exact bad_pn
            · split
              · rename_i elt gens scope hsc
                obtain ⟨q, ee⟩ := setComp_ok hsc
                cases ee
                split
                · rename_i hx
                  obtain ⟨hx, ok⟩ := and2 hx
                  split
                  · rename_i q hq
                    obtain ⟨rfl, _, _, _, _⟩ := isBi_ok c hx
                    exact Snd.sc_ S c hh hx ok hq fun s H C clo fp => S0.e (c.blk hh s H C clo fp) elt
                  · exact bad_pn
                · exact bad_pn
              · split
                · rename_i b hb hg
                  split
                  · exact bad_pn
                  · rename_i hs
                    exact S0.blt_ c hb hg (nohot hs) hh
                · exact bad_pn
    | Attribute o m apos =>
      cases es with
      | nil => cases hp
      | cons e es =>
        cases kws with
        | cons _ _ => cases hp
        | nil =>
          unfold trN
          simp only
          split
          · rename_i q hq
            split
            · exact bad_pn
            · rename_i hc
              simp only [Bool.or_eq_true, not_or, Bool.not_eq_true, Bool.not_eq_true', Bool.not_eq_false, decide_eq_true_eq] at hc
              obtain ⟨⟨⟨hs, hl⟩, hsu⟩, hlen⟩ := hc
              exact S0.bm_ c hq hs hl hsu (by simpa using hlen)
          · exact bad_pn
    | _ => cases hp
  | _ => cases hp
theorem Snd.it_ (S : Snd G cl fdm n) (c : CxE G cl fdm tc X W f k) (tg it : Expr) : PI X tg it (TIt X f.Bs W (evI G cl f.base (trIt (n + 1) tc tg it))) := by
  cases it with
  | Call fe es kws pos =>
    cases fe with
    | Name x p =>
      unfold trIt
      simp only
      split
      · rename_i hr
        obtain ⟨h1, h2⟩ := and2 hr
        obtain ⟨ex, hg, hm, hdb, hx⟩ := isBi_ok c h1
        subst ex
        cases kws with
        | cons _ _ => cases h2
        | nil =>
          split
          · rename_i b
            split
            · exact bad_pi
            · rename_i hs
              exact sd_rng1 hg hm (S.e c b) (star_plain (nohot hs))
          · rename_i a b
            split
            · exact bad_pi
            · rename_i hs
              simp only [Bool.or_eq_true, not_or, Bool.not_eq_true] at hs
              have s2 : starEach [b] X.env = [(false, eval b X.env)] := star_plain hs.2
              exact sd_rng2 hg hm (S.e c a) (S.e c b) (by rw [star_plain hs.1, s2]) s2
          · exact bad_pi
      · split
        · rename_i hr
          simp only [Bool.and_eq_true] at hr
          obtain ⟨⟨h1, h2⟩, h3⟩ := hr
          obtain ⟨ex, hg, hm, hdb, hx⟩ := isBi_ok c h3
          subst ex
          cases kws with
          | cons _ _ => cases h2
          | nil =>
            cases tg with
            | Tuple tes tk tp =>
              split
              · rename_i a
                split
                · exact bad_pi
                · rename_i hs
                  exact sd_enu hg hm (S.e c a) (star_plain (nohot hs))
              · exact bad_pi
            | _ => cases h1
        · split
          · rename_i hr
            simp only [Bool.and_eq_true] at hr
            obtain ⟨⟨h1, h2⟩, h3⟩ := hr
            obtain ⟨ex, hg, hm, hdb, hx⟩ := isBi_ok c h3
            subst ex
            cases kws with
            | cons _ _ => cases h2
            | nil =>
              cases tg with
              | Tuple tes tk tp =>
                split
                · rename_i a b
                  split
                  · exact bad_pi
                  · rename_i hs
                    simp only [Bool.or_eq_true, not_or, Bool.not_eq_true] at hs
                    exact sd_zip2 hg hm (S.e c a) (S.e c b) (star_plain hs.1) (star_plain hs.2) (by rw [star_any]; show (isStar b || false) = false; rw [hs.2]; rfl)
                · rename_i a b d
                  split
                  · exact bad_pi
                  · rename_i hs
                    simp only [Bool.or_eq_true, not_or, Bool.not_eq_true] at hs
                    exact sd_zip3 hg hm (S.e c a) (S.e c b) (S.e c d) (star_plain hs.1.1) (star_plain hs.1.2) (star_plain hs.2) (by rw [star_any]; show (isStar b || (isStar d || false)) = false; rw [hs.1.2, hs.2]; rfl)
                · exact bad_pi
              | _ => cases h1
          · exact sd_seq (S.e c _)
    | Attribute e m apos =>
      unfold trIt
      simp only
      split
      · rename_i hr
        simp only [Bool.and_eq_true, Bool.not_eq_true'] at hr
        obtain ⟨⟨⟨h1, h2⟩, h3⟩, h4⟩ := hr
        cases es with
        | cons _ _ => cases h1
        | nil =>
          cases kws with
          | cons _ _ => cases h2
          | nil =>
            split
            · rename_i ev
              subst ev
              exact sd_vals (S.e c e) (base_plain h3) h4
            · split
              · rename_i ev
                subst ev
                split
                · exact sd_items (S.e c e) (base_plain h3) h4
                · exact bad_pi
              · exact sd_seq (S.e c _)
      · exact sd_seq (S.e c _)
    | _ => exact sd_seq (S.e c _)
  | _ => exact sd_seq (S.e c _)
/-- the translation of expressions is right -/
theorem snd : ∀ n : Nat, ∀ m ≤ n, Snd G cl fdm m
  | 0, m, hm => by
    obtain rfl : m = 0 := Nat.le_zero.mp hm
    exact {
      e := fun c e => bad_pe
      p := fun c e _ => bad_pn
      v := fun c e => bad_pe
      b := fun c op vs pos => bad_pe
      t := fun c e => bad_pt
      bt := fun c op vs pos h => ⟨fun whole pins s σ H Q I ⟨w, st, cs, hs, hh, hr⟩ => (show False from hr).elim⟩
      es := fun c es => by
        cases es with
        | nil => exact sd_nil
        | cons e r => exact bad_pa
      ks := fun c kws => by
        cases kws with
        | nil => exact sk_nil
        | cons e r => exact bad_pk
      o := fun c o => ⟨fun pins s σ H Q I ⟨w, st, cs, hs, hh, hr⟩ => (show False from hr).elim⟩
      cf := fun c x fn es kws p pos h => bad_pe
      cc := fun c x C es kws p pos h => bad_pe
      isi := fun c x es p pos h => bad_pe
      it := fun c tg it => bad_pi }
  | n + 1, m, hm => by
    have S := snd n
    have S0 := S n (Nat.le_refl n)
    rcases Nat.lt_or_ge m (n + 1) with h | h
    · exact S m (Nat.le_of_lt_succ h)
    · obtain rfl : m = n + 1 := Nat.le_antisymm hm h
      exact {
        e := fun c e => S0.e_ c e
        p := fun c e h => Snd.p_ S c e h
        v := fun c e => S0.v_ (es_nil0 n _) (ks_nil0 n _) c e
        b := fun c op vs pos => S0.b_ c op vs pos
        t := fun c e => S0.t_ c e
        bt := fun c op vs pos h => S0.bt_ c op vs pos h
        es := fun c es => S0.es_ c es
        ks := fun c kws => S0.ks_ c kws
        o := fun c o => S0.o_ c o
        cf := fun c x fn es kws p pos h => S0.cf_ (es_nil0 n _) (ks_nil0 n _) c x fn es kws p pos h
        cc := fun c x C es kws p pos h => S0.cc_ (es_nil0 n _) (ks_nil0 n _) c x C es kws p pos h
        isi := fun c x es p pos h => S0.isi_ c x es p pos h
        it := fun c tg it => S0.it_ c tg it }
end
end EV
/-! TrF: the translation of statements. -/
namespace EV
open PySem PySem.Spec PyProof.Rows L2

/-- is a comprehension in 'name = [..]' swapped with the name? -/
def isLoc (tc : Tc) (y : Str) : Bool := match tc.sc.names.lookup y with
  | some .local => true
  | _ => false
def swLocal (tc : Tc) (y : Str) : Bool := tc.sc.kind == .function && isLoc tc y
def swFree (scope : Scope) (y : Str) : Bool := !(scope.names.any fun (n, k) => n == y && (k == .local || k == .cell))
def parOk (tc : Tc) (x y : Str) (px py : Pos) (a b : Expr) : Bool := swLocal tc x && swLocal tc y && (py.line == px.line) && !(x == y) && !(isStar a) && !(isStar b) && !(foldedForSure 8 a && foldedForSure 8 b) && !(constantsAlone 8 a && constantsAlone 8 b)
def notLoc (tc : Tc) : Expr → Bool
  | .Name x _ => !isLoc tc x
  | _ => false
def strOne : List Expr → Option (List Nat)
  | [.Constant (.str m) _ _] => some m.cps.toList
  | _ => none
def exOf (tc : Tc) (x : Str) : Option Str := match tc.glob x with
  | some (.exc C) => some C
  | _ => none
def fieldsOf (xs : List (Str × ExcI)) (C : Str) : Option (List Str) := (xs.lookup C).map (·.fields)
mutual
def trS : Nat → List (Str × ExcI) → Tc → Stmt → S
  | 0, _, _, _ => badS
  | n + 1, xs, tc, st => match st with
    | .Expr e _ => if isComp e then badS else .exp (trE n tc e)
    | .Pass _ => .pss
    | .Break _ => .brk
    | .Continue _ => .cnt
    | .Return (some e) _ => .ret (trE n tc e)
    | .Return none _ => .retN
    | .If c a b _ => .ite (trT n tc c) (trSs n xs tc a) (trSs n xs tc b)
    | .While c b [] _ => if tc.hot then badS else .whl (trT n tc c) (trSs n xs tc b)
    | .For t it b [] _ => if tc.hot || isSet it then badS else match trTg tc t with
      | some g => .for_ g (trIt n tc t it) (trSs n xs tc b)
      | none => badS
    | .Assign [t] e pos => match t with
      | .Attribute o x _ => if tc.hot then badS else .setA (trE n tc o) x (trE n tc e)
      | .Subscript o i _ => if tc.hot || isSlice i then badS else .setI (trE n tc o) (trE n tc i) (trE n tc e)
      | .Tuple es _ _ => if tc.hot || isComp e then badS else if isTup e then (if es.any (notLoc tc) then (match namesOf tc es with
        | some is => .asg (.tp is) (trE n tc e)
        | none => badS) else match es, e with
        | [.Name x px, .Name y py], .Tuple [a, b] _ _ => if parOk tc x y px py a b then (match findIx x tc.N 0, findIx y tc.N 0 with
          | some i, some j => .par [i, j] (trEs n tc [a, b])
          | _, _ => badS) else badS
        | _, _ => badS) else match trTg tc t with
        | some g => .asg g (trE n tc e)
        | none => badS
      | .Name y py => match tc.store y with
        | some i => match e with
          | .ListComp elt gens scope cpos => if tc.hot then badS else if swLocal tc y && (py.line == cpos.line) then (if swFree scope y && blkC tc.N tc.sc scope (ownOf tc.N scope) then (match gens, trCl n tc { tc with sc := relS scope tc.sc, top := topOf scope } (ownOf tc.N scope) gens with
              | [_], some (.one t it o) => .asg (.nm i) (if hinted tc cpos then .cell (.lc (trE n { tc with sc := relS scope tc.sc, top := topOf scope } elt) ((ownOf tc.N scope).map (·.2)) (.one t it o)) else .lc (trE n { tc with sc := relS scope tc.sc, top := topOf scope } elt) ((ownOf tc.N scope).map (·.2)) (.one t it o))
              | _, _ => badS) else badS) else (if !(py.line == cpos.line) || !(isLoc tc y) then .asg (.nm i) (trE n tc e) else badS)
          | .DictComp kx vx gens scope cpos => if tc.hot then badS else if swLocal tc y && (py.line == cpos.line) then (if swFree scope y && blkC tc.N tc.sc scope (ownOf tc.N scope) then (match gens, trCl n tc { tc with sc := relS scope tc.sc, top := topOf scope } (ownOf tc.N scope) gens with
              | [_], some (.one t it o) => .asg (.nm i) (.cell (.dc (trE n { tc with sc := relS scope tc.sc, top := topOf scope } kx) (trE n { tc with sc := relS scope tc.sc, top := topOf scope } vx) ((ownOf tc.N scope).map (·.2)) (.one t it o)))
              | _, _ => badS) else badS) else (if !(py.line == cpos.line) || !(isLoc tc y) then .asg (.nm i) (trE n tc e) else badS)
          | e => if isComp e then badS else .asg (.nm i) (trE n tc e)
        | none => badS
      | _ => badS
    | .AugAssign (.Attribute o x _) op e _ => match op with
      | .Add => .augA (trE n tc o) x .Add (trE n tc e)
      | _ => badS
    | .Raise (some (.Call (.Name x _) (e :: es) [] _)) none _ => if tc.hot || (e :: es).any isStar then badS else match exOf tc x with
      | some C => match fieldsOf xs C with
        | some [] => match strOne (e :: es) with
          | some m => .rse C (.cons (.val (.str m)) .nil)
          | none => badS
        | some _ => .rse C (trEs n tc (e :: es))
        | none => badS
      | none => badS
    | .Try body (h :: hs) [] [] _ => if tc.hot then badS else match trHs n xs tc (h :: hs) with
      | some hz => .try_ (trSs n xs tc body) hz
      | none => badS
    | _ => badS
def trSs : Nat → List (Str × ExcI) → Tc → List Stmt → Ss
  | 0, _, _, _ => .cons badS .nil
  | n + 1, xs, tc, sts => match sts with
    | [] => .nil
    | st :: r => .cons (trS n xs tc st) (trSs n xs tc r)
def trHs : Nat → List (Str × ExcI) → Tc → List ExceptHandler → Option Hs
  | 0, _, _, _ => none
  | n + 1, xs, tc, hs => match hs with
    | [] => some .nil
    | .ExceptHandler (some (.Name x _)) nm (b :: su) _ :: r => match exOf tc x, trHs n xs tc r with
      | some C, some hr => match nm with
        | none => some (.cons C none (trSs n xs { tc with hot := true } (b :: su)) hr)
        | some y => match tc.sc.names.lookup y, findIx y tc.N 0 with
          | some .local, some i => some (.cons C (some i) (trSs n xs { tc with hot := true } (b :: su)) hr)
          | _, _ => none
      | _, _ => none
    | _ => none
end
/-- what is known of raising -/
def RaiseOk (K : Fg) (G : Gl) : Prop := ∀ C i, G.excs.lookup C = some i → PySem.W.subIn K (.ref (He.ga K C)) (.type "BaseException") = some true ∧ PySem.W.typeIn K (.ref (He.ga K C)) = some (.type "type") ∧ PySem.W.keepIn K (.ref (He.ga K C)) = true ∧
  (i.fields = [] → ∃ B newId initId bmB, ExcBaseFacts B newId initId bmB ∧ PySem.W.excIn K (He.ga K C) bmB newId = true) ∧ (i.fields ≠ [] → i.fields.length ≤ 900 ∧ ∃ fI fd ps, ExF K C i.fields fI fd ps)
structure CxS (G : Gl) (cl : CallF) (fdm : Str → FuncData) (tc : Tc) (X : Cx) (W : WX) (f : Fr) (k : Nat) : Prop extends CxE G cl fdm tc X W f k where
  goodF : tc.hot = false → GoodF G cl fdm X W f k
  hk : 1 ≤ k
  rz : RaiseOk X.K G
structure SndS (G : Gl) (cl : CallF) (fdm : Str → FuncData) (n : Nat) : Prop where
  s : ∀ {tc X W f k}, CxS G cl fdm tc X W f k → ∀ st, PS X st (TM1 X f W G cl (trS n G.excs tc st))
  ss : ∀ {tc X W f k}, CxS G cl fdm tc X W f k → ∀ sts, PSs X sts (TM X f W G cl (trSs n G.excs tc sts))
section
variable {G : Gl} {cl : CallF} {fdm : Str → FuncData} {n : Nat} {tc : Tc} {X : Cx} {W : WX} {f : Fr} {k : Nat}
theorem badS_ps {st : Stmt} : PS X st (TM1 X f W G cl badS) := ⟨fun pins s σ H D I ⟨w, st, cs, hs, hh, hr⟩ => (show False from hr).elim⟩
theorem badS_pss {sts : List Stmt} {r : Ss} : PSs X sts (TM X f W G cl (.cons badS r)) := ⟨fun pins s σ H D I ⟨w, st, cs, hs, hh, hr⟩ => (show False from hr).elim⟩
theorem exOf_ok (c : CxE G cl fdm tc X W f k) {x C : Str} (h : exOf tc x = some C) : ∃ i, G.excs.lookup C = some i ∧ X.mg x = some (.ref (He.ga X.K C)) ∧ L2.Gl X x ∧ (x == ("__debug__" : Str)) = false := by
  unfold exOf at h
  split at h
  · rename_i e
    cases h
    obtain ⟨hg, hn, hdb, _⟩ := glob_ok c e
    obtain ⟨i, hi, hm⟩ := c.pf.names _ _ hn
    exact ⟨i, hi, hm, hg, hdb⟩
  · cases h
/-- within a try's body -/
theorem CxS.tr (c : CxS G cl fdm tc X W f k) (h : tc.hot = false) {W' : WX} {pn : List (Addr × Obj)} {xe : Value → Shared → Prop} (tk : Takes (X.tr pn xe) W') (po : PassesOwn (model X.prog X.w) X.A X.env xe) : CxS G cl fdm tc (X.tr pn xe) W' f k :=
  have g := c.goodF h
  have gd : Good G cl fdm (X.tr pn xe) W' f k := ⟨g.hN, g.hf, g.calm, g.room, g.gd, tk, po, g.call⟩
  { pf := c.pf, N := c.N, sc := c.sc, nd := c.nd, fok := c.fok, uni := c.uni, gd := c.gd, fnl := c.fnl, good := fun _ => gd, held := (fun y => by rw [h] at y; cases y), goodF := fun _ => { toGood := gd, stk := g.stk, fra := g.fra }, hk := c.hk, rz := c.rz }
/-- within an except suite -/
theorem CxS.su (c : CxS G cl fdm tc X W f k) {a : Addr} {oe : Obj} {cls : Value} {d : Option Addr} {pn : List (Addr × Obj)} (hz : Zc cls d oe) (hf : ∃ vs, oe.data = .fields vs) : CxS G cl fdm { tc with hot := true } (X.suite a ((a, oe) :: pn)) WF (f.held X.K a cls d) k :=
  { pf := c.pf, N := c.N, sc := c.sc, nd := c.nd, fok := ⟨c.fok.mem, c.fok.top⟩, uni := c.uni, gd := c.gd, fnl := c.fnl, good := (fun y => nomatch y), held := fun _ => ⟨X, a, oe, cls, d, pn, rfl, hz, hf, fun p q h => h⟩, goodF := (fun y => nomatch y), hk := c.hk, rz := c.rz }
theorem trHs_ok : ∀ {n : Nat}, (∀ m ≤ n, SndS G cl fdm m) → ∀ {tc : Tc} {X : Cx} {W : WX} {f : Fr} {k : Nat}, CxS G cl fdm tc X W f k → ∀ {hds : List ExceptHandler} {hz : Hs}, trHs n G.excs tc hds = some hz → ∃ l, HsOk X f G cl hds hz l
  | 0, S, tc, X, W, f, k, c, hds, hz, h => nomatch h
  | n + 1, S, tc, X, W, f, k, c, hds, hz, h => by
    unfold trHs at h
    split at h
    · cases h
      exact ⟨_, .nil⟩
    · rename_i x np nm b su p2 r
      split at h
      · rename_i C hr e1 e2
        obtain ⟨l, hl⟩ := trHs_ok (fun m hm => S m (Nat.le_succ_of_le hm)) c e2
        obtain ⟨j, hj, hm, hg, hdb⟩ := exOf_ok c.toCxE e1
        split at h
        · cases h
          exact ⟨_, .plain ⟨hg, hdb, .inl hm⟩ hj (fun a oe cls d pn hz hf => (S n (Nat.le_succ n)).ss (c.su hz hf) (b :: su)) hl⟩
        · rename_i y
          split at h
          · rename_i i e3 e4
            cases h
            refine ⟨_, .named ⟨hg, hdb, .inl hm⟩ hj (by rw [c.N]; exact findIx_0 e4) ?_ (fun a oe cls d pn hz hf => (S n (Nat.le_succ n)).ss (c.su hz hf) (b :: su)) hl⟩
            show X.env.scope.names.lookup y = _
            rw [c.sc]
            exact e3
          · cases h
      · cases h
    · cases h
theorem strOne_ok {es : List Expr} {m : List Nat} (h : strOne es = some m) : ∃ (s : Str) (j : Nat) (p : Pos), False ∨ (m = s.cps.toList ∧ ∃ kk, es = [.Constant (.str s) kk p]) := by
  unfold strOne at h
  split at h
  · cases h
    exact ⟨_, 0, _, .inr ⟨rfl, _, rfl⟩⟩
  · cases h
theorem store_loc (c : CxE G cl fdm tc X W f k) {y : Str} {i : Nat} (h : tc.store y = some i) : X.N[i]? = some y := (store_okN c h).1
theorem swLocal_ok (c : CxE G cl fdm tc X W f k) {y : Str} (h : swLocal tc y = true) : X.env.scope.kind = .function ∧ X.env.scope.names.lookup y = some .local := by
  unfold swLocal at h
  obtain ⟨h1, h2⟩ := and2 h
  rw [c.sc]
  refine ⟨?_, ?_⟩
  · cases e : tc.sc.kind <;> rw [e] at h1 <;> first | rfl | cases h1
  · unfold isLoc at h2
    split at h2
    · assumption
    · cases h2
theorem filt_lt {α β : Type} {f : α → Option β} : ∀ {l : List α} {t : α}, t ∈ l → f t = none → ((l.filterMap f).length != l.length) = true
  | l, t, hm, h => by
    have : (l.filterMap f).length < l.length := by
      induction l with
      | nil => cases hm
      | cons a l ih =>
        have le := List.length_filterMap_le f l
        rcases List.mem_cons.mp hm with rfl | hm
        · rw [List.filterMap_cons, h]
          simp only [List.length_cons]
          omega
        · have := ih hm
          rw [List.filterMap_cons]
          split <;> simp only [List.length_cons] <;> omega
    simp only [bne_iff_ne, ne_eq]
    omega
theorem par_none {env : Env} {ts vs : List Expr} {pt pt2 : Pos} {kt k2 : Nat} {x : Str} {px : Pos} (hm : Expr.Name x px ∈ ts) (hx : (env.kindOf x == some .local) = false) : swappedStores [.Tuple ts kt pt] (.Tuple vs k2 pt2) env = pure none := by
  unfold swappedStores
  simp only [pure_bind]
  split
  · rfl
  · split
    · rfl
    · rw [if_pos]
      rw [Bool.or_eq_true]
      left
      refine filt_lt hm ?_
      simp only [hx, Bool.false_and]
      rfl
theorem isfn {e : ScopeKind} (h : (e == .function) = true) : e = .function := by
  cases e <;> first | rfl | cases h
theorem blockKind_fn {env : Env} (h : env.scope.kind = .function) : env.blockKind = .function := by
  unfold Env.blockKind
  rw [h]
  rfl
theorem par_swap {env : Env} {x y : Str} {px py pt pt2 : Pos} {kt k2 : Nat} {a b : Expr} (hk : env.scope.kind = .function) (hx : env.scope.names.lookup x = some .local) (hy : env.scope.names.lookup y = some .local) (hl : (py.line == px.line) = true) (hne : (x == y) = false) (ha : isStar a = false) (hb : isStar b = false)
    (hf : (foldedForSure 8 a && foldedForSure 8 b) = false) (hc : (constantsAlone 8 a && constantsAlone 8 b) = false) : swappedStores [.Tuple [.Name x px, .Name y py] kt pt] (.Tuple [a, b] k2 pt2) env = pure (some [x, y]) := by
  have hs : ([a, b].any fun | .Starred .. => true | _ => false) = false := by
    cases a <;> cases b <;> first | rfl | (cases ha; done) | (cases hb; done)
  have kx : env.kindOf x = some .local := hx
  have ky : env.kindOf y = some .local := hy
  have hn : [Expr.Name x px, Expr.Name y py].filterMap (fun
    | .Name id pos => if env.kindOf id == some .local && pos.line == px.line then some id else none
    | _ => none) = [x, y] := by
    have e1 : (env.kindOf x == some .local && px.line == px.line) = true := by rw [kx]; simp
    have e2 : (env.kindOf y == some .local && py.line == px.line) = true := by rw [ky, hl]; rfl
    simp [List.filterMap, e1, e2, kx]
  have hd : [x, y].eraseDups = [x, y] := by
    have : (y == x) = false := by
      rw [beq_eq_false_iff_ne] at hne ⊢
      exact fun z => hne z.symm
    simp [List.eraseDups_cons, this]
  unfold swappedStores
  simp only [pure_bind]
  rw [blockKind_fn hk]
  rw [if_neg (by simp)]
  rw [if_neg (by erw [hs]; exact Bool.false_ne_true)]
  have h2 : (decide True) = true := rfl
  erw [hn]
  rw [if_neg (by rw [hd]; simp)]
  rw [if_neg (by simpa [Bool.and_eq_false_iff] using hf), if_neg (by simpa [Bool.and_eq_false_iff] using hc)]
theorem sd_par {i j : Nat} {x y : Str} {a b : Expr} {px py pt p2 pos : Pos} {kt k2 : Nat} {es : Es} (hc : X.calm = true) (hN : X.N.Nodup) (hi : X.N[i]? = some x) (hj : X.N[j]? = some y) (hij : i ≠ j) (hx : X.env.scope.names.lookup x = some .local) (hy : X.env.scope.names.lookup y = some .local)
    (ha : PA X [a, b] (TL X f.Bs W (evEs G cl f.base es))) (hw : swappedStores [.Tuple [.Name x px, .Name y py] kt pt] (.Tuple [a, b] k2 p2) X.env = pure (some [x, y])) : PS X (.Assign [.Tuple [.Name x px, .Name y py] kt pt] (.Tuple [a, b] k2 p2) pos) (TM1 X f W G cl (.par [i, j] es)) := by
  refine PS.imp (ps_par hc hN hi hj hij hx hy ha hw) fun D σ H h => ?_
  refine TSm.ofR (k := fun s vs cs => SR.ofO (setAll [i, j] vs s) fun s => .nx s cs) h fun w s vs xs cs H' hs hh r run => ?_
  obtain ⟨s', es, run⟩ := run.ofO
  cases r with
  | nil => cases es
  | cons r1 r =>
    cases r with
    | nil => cases es
    | cons r2 r =>
      cases r with
      | nil =>
        cases es
        exact ⟨_, _, rfl, run w _ H' .rfl ((hs.set i r1).set j r2) hh⟩
      | cons _ _ => cases es
theorem sole_plain {t e : Expr} {l : Nat} {env : Env} (h : isComp e = false) : swapsWithSole [t] e l env = pure false := swaps_plain h
theorem swaps_yes {env : Env} {elt : Expr} {gens : List Comprehension} {scope : Scope} {cpos py : Pos} {y : Str} {l : Nat} (hk : env.scope.kind = .function) (hy : env.scope.names.lookup y = some .local) (hl : (py.line == cpos.line) = true) (hf : swFree scope y = true) :
    swapsWith (.ListComp elt gens scope cpos) (some (.Name y py)) l env = pure true := by
  have ky : env.kindOf y = some .local := hy
  have hp : (Expr.ListComp elt gens scope cpos).pos = cpos := rfl
  unfold swapsWith
  simp only [pure_bind]
  rw [blockKind_fn hk, ky, hp, hl]
  unfold swFree at hf
  rw [hf]
  rfl
theorem swaps_no {env : Env} {elt : Expr} {gens : List Comprehension} {scope : Scope} {cpos py : Pos} {y : Str} {l : Nat} (h : (py.line == cpos.line) = false ∨ (env.kindOf y == some .local) = false) :
    swapsWith (.ListComp elt gens scope cpos) (some (.Name y py)) l env = pure false := by
  have hp : (Expr.ListComp elt gens scope cpos).pos = cpos := rfl
  unfold swapsWith
  simp only [pure_bind]
  rw [hp]
  rcases h with h | h
  · rw [h]
    simp
  · rw [h]
    simp
theorem swapsD_yes {env : Env} {kx vx : Expr} {gens : List Comprehension} {scope : Scope} {cpos py : Pos} {y : Str} {l : Nat} (hk : env.scope.kind = .function) (hy : env.scope.names.lookup y = some .local) (hl : (py.line == cpos.line) = true) (hf : swFree scope y = true) :
    swapsWith (.DictComp kx vx gens scope cpos) (some (.Name y py)) l env = pure true := by
  have ky : env.kindOf y = some .local := hy
  have hp : (Expr.DictComp kx vx gens scope cpos).pos = cpos := rfl
  unfold swapsWith
  simp only [pure_bind]
  rw [blockKind_fn hk, ky, hp, hl]
  unfold swFree at hf
  rw [hf]
  rfl
theorem swapsD_no {env : Env} {kx vx : Expr} {gens : List Comprehension} {scope : Scope} {cpos py : Pos} {y : Str} {l : Nat} (h : (py.line == cpos.line) = false ∨ (env.kindOf y == some .local) = false) :
    swapsWith (.DictComp kx vx gens scope cpos) (some (.Name y py)) l env = pure false := by
  have hp : (Expr.DictComp kx vx gens scope cpos).pos = cpos := rfl
  unfold swapsWith
  simp only [pure_bind]
  rw [hp]
  rcases h with h | h
  · rw [h]
    simp
  · rw [h]
    simp
theorem loc_no (c : CxE G cl fdm tc X W f k) {y : Str} (z : isLoc tc y = false) : (X.env.kindOf y == some .local) = false := by
  show (X.env.scope.names.lookup y == some .local) = false
  rw [c.sc]
  unfold isLoc at z
  split at z
  · cases z
  · rename_i z2
    cases e3 : tc.sc.names.lookup y with
    | none => rfl
    | some q => cases q <;> first | rfl | exact (z2 e3).elim
theorem SndS.s_ (S : ∀ m ≤ n, SndS G cl fdm m) (c : CxS G cl fdm tc X W f k) (st : Stmt) : PS X st (TM1 X f W G cl (trS (n + 1) G.excs tc st)) := by
  have S0 := S n (Nat.le_refl n)
  have E := fun m (hm : m ≤ n) => snd (G := G) (cl := cl) (fdm := fdm) n m hm
  have E0 := E n (Nat.le_refl n)
  have ce := c.toCxE
  unfold trS
  split
  · rename_i e p
    split
    · exact badS_ps
    · rename_i h
      exact sd_exp (E0.e ce e) (swaps_plain (nohot h))
  · exact sd_pss
  · exact sd_brk
  · exact sd_cnt
  · exact sd_ret c.fok (E0.e ce _)
  · exact sd_retN c.fok
  · exact sd_if (E0.t ce _) (S0.ss c _) (S0.ss c _)
  · split
    · exact badS_ps
    · rename_i h
      exact sd_whl (c.good (nohot h)).po (E0.t ce _) (S0.ss c _)
  · split
    · exact badS_ps
    · rename_i h
      simp only [Bool.or_eq_true, not_or, Bool.not_eq_true] at h
      have g := c.good h.1
      split
      · rename_i q hq
        exact sd_for g.po g.calm (E0.it ce _ _) (tg_ok ce g.calm hq) (S0.ss c _) (fold_plain h.2)
      · exact badS_ps
  · rename_i t e pos
    split
    · rename_i o x p'
      split
      · exact badS_ps
      · exact sd_setA c.pf.clss c.pf.flds c.fok (E0.e ce _) (E0.e ce _) swaps_attr
    · rename_i o i tpos
      split
      · exact badS_ps
      · rename_i h
        simp only [Bool.or_eq_true, not_or, Bool.not_eq_true] at h
        refine sd_setI ce.uni c.fok (E0.e ce _) (E0.e ce _) (E0.e ce _) (fun v => ?_) (swaps_sub (o := o) (i := i) (p := tpos) (l := pos.line) (env := X.env)) (stores_target rfl) (one_target rfl)
        cases i <;> first | rfl | cases h.2
    · rename_i es kk p'
      split
      · exact badS_ps
      · rename_i h
        simp only [Bool.or_eq_true, not_or, Bool.not_eq_true] at h
        have g := c.good h.1
        split
        · rename_i ht
          split
          · rename_i ha
            split
            · rename_i is hs
              obtain ⟨t, hm, hx⟩ := List.any_eq_true.mp ha
              cases t with
              | Name x px =>
                have hx : (!isLoc tc x) = true := hx
                cases e with
                | Tuple vs k2 p2 => exact sd_asg (E0.e ce _) (sg_tp g.calm c.nd (names_ok ce hs)) (sole_plain h.2) (par_none hm (loc_no ce (by simpa using hx))) (one_target rfl)
                | _ => cases ht
              | _ => cases hx
            · exact badS_ps
          · split
            · rename_i x px y py a b k2 p2 _
              split
              · rename_i hp
                unfold parOk at hp
                simp only [Bool.and_eq_true, Bool.not_eq_true', Bool.and_eq_false_iff] at hp
                split
                · rename_i i j e1 e2
                  obtain ⟨⟨⟨⟨⟨⟨⟨q1, q2⟩, q3⟩, q4⟩, q5⟩, q6⟩, q7⟩, q8⟩ := hp
                  obtain ⟨hk, hx⟩ := swLocal_ok ce q1
                  obtain ⟨_, hy⟩ := swLocal_ok ce q2
                  have hi : X.N[i]? = some x := by rw [c.N]; exact findIx_0 e1
                  have hj : X.N[j]? = some y := by rw [c.N]; exact findIx_0 e2
                  exact sd_par g.calm c.nd hi hj (fun z => by
                    subst z
                    rw [hi] at hj
                    cases hj
                    simp at q4) hx hy (E0.es ce _) (par_swap hk hx hy q3 q4 q5 q6 (by rw [Bool.and_eq_false_iff]; exact q7) (by rw [Bool.and_eq_false_iff]; exact q8))
                · exact badS_ps
              · exact badS_ps
            · exact badS_ps
        · rename_i ht
          split
          · rename_i gg hs
            exact sd_asg (E0.e ce _) (tg_ok ce g.calm hs) (sole_plain h.2) (stores_value (nohot ht)) (one_target rfl)
          · exact badS_ps
    · rename_i y py
      split
      · rename_i i hi
        have nm := store_okN ce hi
        split
        · rename_i elt gens scope cpos
          split
          · exact badS_ps
          · rename_i hh
            have hh := nohot hh
            have g := c.good hh
            split
            · rename_i hsw
              obtain ⟨hl, hline⟩ := and2 hsw
              obtain ⟨hk, hy⟩ := swLocal_ok ce hl
              split
              · rename_i hb
                obtain ⟨hb1, hb2⟩ := and2 hb
                split
                · rename_i q t it o hq
                  have ok : BlkOk X.N X.env.scope scope (ownOf tc.N scope) := blkOk_by (by rw [c.N, c.sc]; exact hb2)
                  cases n with
                  | zero => cases hq
                  | succ n =>
                    unfold trCl at hq
                    split at hq
                    · rename_i tg it' ifs z
                      cases z
                      split at hq
                      · rename_i t' o' ht ho
                        split at hq
                        · rename_i hs
                          cases hq
                          obtain ⟨h1, h2⟩ := and2 hs
                          exact sd_setLc _ g.calm c.nd nm.1 hy (swaps_yes hk hy hline hb1) (slots_in h1) ((E n (Nat.le_succ n)).it ce tg it') ok (fun s H C clo fp => tg_ok (ce.blk hh s H C clo fp) g.calm ht) (fun s H C clo fp => Snd.oc (fun m hm => E m (Nat.le_succ_of_le hm)) (ce.blk hh s H C clo fp) ho) (fun s H C clo fp => E0.e (ce.blk hh s H C clo fp) elt) (fold_plain (by simpa using h2))
                        · cases hq
                      · cases hq
                    · split at hq
                      · split at hq
                        · cases hq
                        · cases hq
                      · cases hq
                    · cases hq
                · exact badS_ps
              · exact badS_ps
            · split
              · rename_i hn
                refine sd_asg (E0.e ce _) (sg_nm c.nd nm) (swaps_no (l := pos.line) ?_) (stores_target rfl) (one_target rfl)
                rw [Bool.or_eq_true, Bool.not_eq_true', Bool.not_eq_true'] at hn
                refine hn.imp id fun z => ?_
                show (X.env.scope.names.lookup y == some .local) = false
                rw [c.sc]
                unfold isLoc at z
                split at z
                · cases z
                · rename_i z2
                  cases e3 : tc.sc.names.lookup y with
                  | none => rfl
                  | some q => cases q <;> first | rfl | exact (z2 e3).elim
              · exact badS_ps
        · rename_i kx vx gens scope cpos
          split
          · exact badS_ps
          · rename_i hh
            have hh := nohot hh
            have g := c.good hh
            split
            · rename_i hsw
              obtain ⟨hl, hline⟩ := and2 hsw
              obtain ⟨hk, hy⟩ := swLocal_ok ce hl
              split
              · rename_i hb
                obtain ⟨hb1, hb2⟩ := and2 hb
                split
                · rename_i q t it o hq
                  have ok : BlkOk X.N X.env.scope scope (ownOf tc.N scope) := blkOk_by (by rw [c.N, c.sc]; exact hb2)
                  cases n with
                  | zero => cases hq
                  | succ n =>
                    unfold trCl at hq
                    split at hq
                    · rename_i tg it' ifs z
                      cases z
                      split at hq
                      · rename_i t' o' ht ho
                        split at hq
                        · rename_i hs
                          cases hq
                          obtain ⟨h1, h2⟩ := and2 hs
                          exact sd_setDc g.calm c.nd nm.1 hy (swapsD_yes hk hy hline hb1) (slots_in h1) ((E n (Nat.le_succ n)).it ce tg it') ok (fun s H C clo fp => tg_ok (ce.blk hh s H C clo fp) g.calm ht) (fun s H C clo fp => Snd.oc (fun m hm => E m (Nat.le_succ_of_le hm)) (ce.blk hh s H C clo fp) ho) (fun s H C clo fp => E0.e (ce.blk hh s H C clo fp) kx) (fun s H C clo fp => E0.e (ce.blk hh s H C clo fp) vx) (fold_plain (by simpa using h2))
                        · cases hq
                      · cases hq
                    · split at hq
                      · split at hq
                        · cases hq
                        · cases hq
                      · cases hq
                    · cases hq
                · exact badS_ps
              · exact badS_ps
            · split
              · rename_i hn
                refine sd_asg (E0.e ce _) (sg_nm c.nd nm) (swapsD_no (l := pos.line) ?_) (stores_target rfl) (one_target rfl)
                rw [Bool.or_eq_true, Bool.not_eq_true', Bool.not_eq_true'] at hn
                exact hn.imp id fun z => loc_no ce z
              · exact badS_ps
        · rename_i hne hne2
          split
          · exact badS_ps
          · rename_i h
            exact sd_asg (E0.e ce _) (sg_nm c.nd nm) (sole_plain (nohot h)) (stores_target rfl) (one_target rfl)
      · exact badS_ps
    · exact badS_ps
  · split
    · exact sd_augA c.pf.clss c.pf.flds c.fok (E0.e ce _) (E0.e ce _) rfl
    · exact badS_ps
  · rename_i x p e es p'
    split
    · exact badS_ps
    · rename_i h
      simp only [Bool.or_eq_true, not_or, Bool.not_eq_true] at h
      have g := c.good h.1
      split
      · rename_i C hC
        obtain ⟨i, hi, hm, hg, hdb⟩ := exOf_ok ce hC
        obtain ⟨h1, h2, h3, h4, h5⟩ := c.rz C i hi
        split
        · rename_i hf
          unfold fieldsOf at hf
          rw [hi] at hf
          have hf : i.fields = [] := by
            cases hf' : i.fields with
            | nil => rfl
            | cons a b => rw [show (some i).map (·.fields) = some i.fields from rfl, hf'] at hf; cases hf
          obtain ⟨B, newId, initId, bmB, F, hx⟩ := h4 hf
          split
          · rename_i m hs
            obtain ⟨m, _, q, z | ⟨rfl, kk, e2⟩⟩ := strOne_ok hs
            · exact z.elim
            · cases e2
              exact sd_rse0 g hi hf (pmk_own F hx hm h3 (raises_own h1 h2) hg hdb)
          · exact badS_ps
        · rename_i fs hne hf
          unfold fieldsOf at hf
          rw [hi] at hf
          cases hf
          have h0 : i.fields ≠ [] := fun z => hne z
          obtain ⟨h9, fI, fd, ps, F⟩ := h5 h0
          exact sd_rse g c.hk hi h0 h9 F hg hm hdb (E0.es ce _) (star_plain (isStar_head h.2).1) (few_of h.2)
        · exact badS_ps
      · exact badS_ps
  · split
    · exact badS_ps
    · rename_i h
      split
      · rename_i hz hh
        obtain ⟨l, hl⟩ := trHs_ok S c hh
        exact sd_try c.pf.exs (c.goodF (nohot h)) (fun W' pn xe tk po => S0.ss (c.tr (nohot h) tk po) _) hl
      · exact badS_ps
  · exact badS_ps
theorem SndS.ss_ (S : SndS G cl fdm n) (c : CxS G cl fdm tc X W f k) (sts : List Stmt) : PSs X sts (TM X f W G cl (trSs (n + 1) G.excs tc sts)) := by
  cases sts with
  | nil => exact sd_snil
  | cons st r => exact sd_scons (S.s c st) (S.ss c r)
/-- the translation of statements is right -/
theorem sndS : ∀ n : Nat, ∀ m ≤ n, SndS G cl fdm m
  | 0, m, hm => by
    obtain rfl : m = 0 := Nat.le_zero.mp hm
    exact ⟨fun c st => badS_ps, fun c sts => badS_pss⟩
  | n + 1, m, hm => by
    have S := sndS n
    rcases Nat.lt_or_ge m (n + 1) with h | h
    · exact S m (Nat.le_of_lt_succ h)
    · obtain rfl : m = n + 1 := Nat.le_antisymm hm h
      exact ⟨fun c st => SndS.s_ S c st, fun c sts => (S n (Nat.le_refl n)).ss_ c sts⟩
end
end EV
/-! TrG: every def of the program by its translation; the calls. -/
namespace EV
open PySem PySem.Spec PyProof.Rows L2

/-- a def and what it is read from -/
structure DefR where
  nm : Str
  N : List Str
  hint : List (Nat × Nat)
  d : He.DefD
  dfl : List Val
  keep : Bool
  ps : List Str
def DefR.tc (nms : List (Str × NK)) (r : DefR) : Tc := ⟨r.N, r.d.scope, nms, r.hint, false, fun _ => true⟩
/-- the def in the small language -/
def DefR.def_ (xs : List (Str × ExcI)) (n : Nat) (nms : List (Str × NK)) (r : DefR) : Def := ⟨r.d.at_, r.ps, r.dfl, r.N.length, trSs n xs (r.tc nms) r.d.body, r.keep⟩
/-- what the body's translation asks of the module beside the defs -/
structure DefG (K : Fg) (G : Gl) (fdm : Str → FuncData) (n : Nat) (nms : List (Str × NK)) (nm : Str) (d : Def) : Prop where
  ex : ∃ (N : List Str) (x qual : Str) (params : Arguments) (body : List Stmt) (scope : Scope) (dvs : List V) (kws : List (Str × V)) (hint : List (Nat × Nat)), FunD K x qual params body scope dvs kws (He.fAd K d.at_) (fdm nm) ∧ FnScope N d.ps scope ∧ N.length = d.n ∧
    d.body = trSs n G.excs ⟨N, scope, nms, hint, false, fun _ => true⟩ body
theorem calls_ok {P : Program} {w : World} {K : Fg} {mg : Str → Option Value} {base : Heap} {G : Gl} {fdm : Str → FuncData} {n : Nat} {nms : List (Str × NK)} (pf : PF K mg G fdm nms) (rz : RaiseOk K G) (hd : ∀ nm d, G.defs.lookup nm = some d → DefG K G fdm n nms nm d) : ∀ m, CallsOk P w K mg base G fdm (2 * m + 1) (callN G m)
  | 0 => fun nm d hl A outer s H args us xs vs Q E wd cs f hr hgd e0 hb r hh rv hf hlen run => (show False from run).elim
  | m + 1 => fun nm d hl A outer s H args us xs vs Q E wd cs f hr hgd e0 hb r hh rv hf hlen run => by
    have ih := calls_ok (P := P) (w := w) (base := base) pf rz hd m
    obtain ⟨N, x, qual, params, body, scope, dvs, kws, hint, F, S, hn, hb'⟩ := (hd nm d hl).ex
    have run' : Run K f.Bs (rV K) (WE E) [] wd Q (match G.defs.lookup nm with
      | some d => runD G (callN G m) d vs f.base cs
      | none => .bad) := run
    rw [hl] at run'
    refine def_ok F S hn ih (fun X W g h1 h2 h3 h4 h5 h6 h7 h8 h9 gd => ?_) A outer s H args us xs vs Q E wd cs f (by rw [show 2 * m + 1 + 2 = 2 * (m + 1) + 1 by omega]; exact hr) hgd e0 hb r hh rv hf hlen run'
    rw [hb']
    refine (sndS (fdm := fdm) n n (Nat.le_refl n)).ss (k := 2 * m + 1) ?_ body
    have un := gd.room.un
    exact { pf := by rw [h3, h4]; exact pf, N := h6, sc := h7, nd := gd.hN, fok := gd.hf, uni := by omega, gd := gd.gd, fnl := fun x _ => h8 x, good := fun _ => gd.toGood, held := (fun y => nomatch y), goodF := fun _ => gd, hk := by omega, rz := by rw [h3]; exact rz }
end EV
/-! TrH: the law's def called with its script. -/
namespace EV
open PySem PySem.Spec PyProof.Rows L2

/-- the script's list, told of or not -/
def scrH (on : Bool) (a : Addr) (ho : HO) : Hp := fun b => if on = true ∧ b = a then some ho else none
theorem scrH_some {on : Bool} {a b : Addr} {ho u : HO} (h : scrH on a ho b = some u) : on = true ∧ b = a ∧ u = ho := by
  unfold scrH at h
  split at h
  · rename_i c
    cases h
    exact ⟨c.1, c.2, rfl⟩
  · cases h
theorem scrH_at {a : Addr} {ho : HO} : scrH true a ho a = some ho := if_pos ⟨rfl, rfl⟩
section
variable {P : Program} {w : World} {K : Fg} {mg mb : Str → Option Value} {G : Gl} {fdm : Str → FuncData} {s : Shared} {fa a : Addr} {vs : List Value} {ns : List Int} {x : Str} {nm : Str} {d : Def} {m : Nat}
def wd0 (H : Hp) : Wd := ⟨0, fun _ => 0, H, fun _ => none, fun _ => none⟩
theorem rel0 {H : Hp} : HRel K (wd0 H) ⟨[0], fun _ _ => False⟩ [] H where
  n := rfl
  fr := fun p o h => h
  ac := fun p o h => nomatch h
  cell := fun a o h => nomatch h
  inj := fun a b h => nomatch h
  clean := fun b _ a o _ h => nomatch h
  bs := fun b hb => by
    have hb : b ∈ [0] := hb
    rw [List.mem_singleton.mp hb]
    exact Nat.le_refl _
  xo := fun p c h => nomatch h
theorem law_own (KX : K.In s.heap) (hns : s.heap.Ns mainGlobals mg) (hb : s.heap.Ns builtinsNs mb) (hbb : ∀ x : Str, x ≠ "__name__" → mb x = bootBuiltins x) (hlim : s.heap.NoLimit) (hg : s.gens = #[]) (ha : s.heap.get? a = some { cls := .type "list", data := .seq vs.toArray }) (hi : IntsAre vs ns) (hl : ns.length ≤ sizeLine)
    (hr : Room (2 * m + 1) callerA) (hd : G.defs.lookup nm = some d) (hps : d.ps = [x]) (hfa : He.fAd K d.at_ = fa) (hbind : ∀ u : Value, BindsTo s (fdm nm) ⟨[u], []⟩ [(x, u)]) (hC : ∀ base : Heap, CallsOk P w K mg base G fdm (2 * m + 1) (callN G m)) (hrun : ∃ cs, callN G m nm [.scr ns] 0 [] = .ok (.bl true) cs) :
    codeAny (model P w) callerA (.call (.ref fa) ⟨[.ref a], []⟩) (fun r s' => r = .ok (.ret (.bool true)) ∧ OldK s.heap s'.heap ∧ s'.os = s.os ∧ AllBare s'.gens) s := by
  have rv := vals_ints hi
  have len := hi.length
  -- the script is the module's own object, or it is told of
  obtain ⟨on, hS, hK⟩ : ∃ on : Bool, SqL K (scrH on a (.frz { cls := .type "list", data := .seq vs.toArray } (.lst (ns.map V.int)))) a (ns.map V.int) ∧ (on = true → K.lookup a = none) := by
    cases ek : K.lookup a with
    | none => exact ⟨true, .inl (.inr ⟨_, scrH_at⟩), fun _ => rfl⟩
    | some o =>
      have e := KX a o ek
      rw [ha] at e
      cases e
      exact ⟨false, .inr ⟨_, vs.toArray, _, ek, rfl, rfl, rfl, by rw [List.size_toArray, len]; exact hl, by simpa using rv⟩, fun z => nomatch z⟩
  generalize hH : scrH on a (.frz { cls := .type "list", data := .seq vs.toArray } (.lst (ns.map V.int))) = H at hS
  have own : ∀ {b : Addr} {u : HO}, H b = some u → b = a ∧ K.lookup a = none ∧ u = .frz { cls := .type "list", data := .seq vs.toArray } (.lst (ns.map V.int)) := fun {b u} e => by
    rw [← hH] at e
    obtain ⟨e1, e2, e3⟩ := scrH_some e
    exact ⟨e2, hK e1, e3⟩
  have ok : HOk P w H s.heap := fun b u e => by
    obtain ⟨e1, _, e3⟩ := own e
    subst e1 e3
    exact ⟨ha, by rw [List.length_map]; exact hl, vs, _, rv, ha⟩
  have free : ∀ {b : Addr} {t : Addr → Prop}, (b = a → False) → H b = none := fun {b t} hb => by
    cases q : H b with
    | none => rfl
    | some u => exact (hb (own q).1).elim
  have seen : ∀ {b : Addr} {o : Obj}, s.heap.get? b = some o → (b = a → False) → (hidT s.heap H).get? b = some o := fun {b o} e hb => hidT_get e (free (t := fun _ => True) hb)
  have spaces : ∀ {b : Addr} {t : Str → Option Value}, s.heap.Ns b t → (hidT s.heap H).Ns b t := fun {b t} ⟨o, es, ep, e, dd, r⟩ => ⟨o, es, ep, seen e (fun z => by
    subst z
    rw [ha] at e
    cases e
    cases dd), dd, r⟩
  have kin : K.In (hidT s.heap H) := fun b o e => hidT_get (KX b o e) (by
    cases q : H b with
    | none => rfl
    | some u =>
      obtain ⟨e1, e2, _⟩ := own q
      rw [e1, e2] at e
      cases e)
  have e0 : Env0 P w K mg (hidT s.heap H) callerA [] s H := ⟨rfl, ⟨kin, spaces hns, ⟨mb, spaces hb, hbb⟩, let ⟨t, h1, h2⟩ := hlim; ⟨t, spaces h1, h2⟩⟩, fun b o e => of_hidT e, Nat.le_of_eq (hidT_size _ _), trivial, (fun b z => nomatch z), ok, .of_eq hg⟩
  have hv : RepV K (wd0 H) (.scr ns) (.ref a) := .scr hS
  have go := hC (hidT s.heap H) nm d hd callerA [] s H ⟨[.ref a], []⟩ [.ref a] [.ref a] [.scr ns] (fun v _ => v = .bl true) (fun _ _ _ => False) (wd0 H) [] ⟨false, 0, ⟨[0], fun _ _ => False⟩⟩ hr rfl e0 (by rw [hps]; exact hbind (.ref a)) (.cons rfl .nil) rel0 (.cons hv .nil) ⟨List.mem_singleton.mpr rfl, fun b hb => by
    have hb : b ∈ [0] := hb
    exact Nat.le_of_eq (List.mem_singleton.mp hb)⟩ (by rw [hps]; rfl) (by
    obtain ⟨cs, e⟩ := hrun
    show Run K _ (rV K) _ _ _ _ (callN G m nm [.scr ns] 0 [])
    rw [e]
    intro w' y H' _ _ r
    cases r
    rfl)
  rw [hfa] at go
  refine codeAny_mono go fun r s' h => ?_
  match r, h with
  | .error e, h =>
    obtain ⟨_, _, _, _, _, _, _, _, _, _, _, _, z⟩ := h
    exact z.elim
  | .ok .next, h => exact h.elim
  | .ok .brk, h => exact h.elim
  | .ok .cont, h => exact h.elim
  | .ok (.ret u), h =>
    obtain ⟨v, H', os, bare, un, ok', r', q⟩ := h
    obtain rfl : v = .bl true := q
    obtain rfl : u = Value.bool true := r'
    refine ⟨rfl, OldK.of_keep fun b o e => ?_, os, bare⟩
    cases q : H b with
    | none => exact un.keep b o e q (fun z => nomatch z) (by simp)
    | some u =>
      obtain ⟨e1, _, e3⟩ := own q
      subst e1 e3
      have kept := un.frzs b _ _ q
      obtain ⟨k1, _⟩ := ok' b _ kept
      rw [ha] at e
      cases e
      exact k1
end
end EV
/-! TrI: a program as a record; what is looked at behind the head. -/
namespace EV
open PySem PySem.Spec PyProof.Rows L2

/-! ### constants of the module -/
mutual
def conB (K : Fg) : Nat → Val → Value → Bool
  | 0, _, _ => false
  | n + 1, v, u => match v, u with
    | .non, .none => true
    | .bl b, .bool c => b == c
    | .int i, .int j _ => decide (j = i)
    | .str s, .str y _ => decide (y = tS s)
    | .tup xs, .ref T => match K.lookup T with
      | some ⟨.type c, _, .seq its _, _⟩ => decide (c = "tuple") && (decide (its.size ≤ sizeLine) && conL K n xs its.toList)
      | _ => false
    | _, _ => false
def conL (K : Fg) : Nat → List Val → List Value → Bool
  | 0, _, _ => false
  | n + 1, vs, us => match vs, us with
    | [], [] => true
    | v :: vs, u :: us => conB K n v u && conL K n vs us
    | _, _ => false
end
theorem con_ok {K : Fg} : ∀ n : Nat, (∀ v u, conB K n v u = true → ∃ y, RelV y u ∧ ∀ w, RepV K w v y) ∧ (∀ vs us, conL K n vs us = true → ∃ ys, Vals ys us ∧ ∀ w, RepL K w vs ys)
  | 0 => ⟨(fun v u h => nomatch h), (fun vs us h => nomatch h)⟩
  | n + 1 => by
    obtain ⟨ih1, ih2⟩ := con_ok (K := K) n
    refine ⟨fun v u h => ?_, fun vs us h => ?_⟩
    · unfold conB at h
      split at h
      · exact ⟨.non, rfl, fun w => .non⟩
      · rename_i b c
        obtain rfl : b = c := eq_of_beq h
        exact ⟨.bl b, rfl, fun w => .bl b⟩
      · rename_i i j t
        obtain rfl : j = i := of_decide_eq_true h
        exact ⟨.int j, ⟨t, rfl⟩, fun w => .int j⟩
      · rename_i s y t
        obtain rfl : y = tS s := of_decide_eq_true h
        exact ⟨.str (tS s), ⟨t, rfl⟩, fun w => .str s⟩
      · rename_i xs T
        split at h
        · rename_i c d its m sl e
          obtain ⟨h1, h⟩ := and2 h
          obtain ⟨h2, h3⟩ := and2 h
          obtain ⟨ys, r1, r2⟩ := ih2 _ _ h3
          exact ⟨.ref T, rfl, fun w => .tup (.inr ⟨_, its, m, e, congrArg Value.type (of_decide_eq_true h1), rfl, of_decide_eq_true h2, r1⟩) (r2 w)⟩
        · cases h
      · cases h
    · unfold conL at h
      split at h
      · exact ⟨[], .nil, fun w => .nil⟩
      · obtain ⟨h1, h2⟩ := and2 h
        obtain ⟨y, r1, r2⟩ := ih1 _ _ h1
        obtain ⟨ys, q1, q2⟩ := ih2 _ _ h2
        exact ⟨y :: ys, .cons r1 q1, fun w => .cons (r2 w) (q2 w)⟩
      · cases h

/-! ### the record -/
/-- an error's own __init__ -/
structure XinR where
  C : Str
  N : List Str
  ps : List Str
  d : He.DefD
structure Prg where
  defs : List DefR
  clss : List (Str × ClsI)
  excs : List (Str × ExcI)
  nms : List (Str × NK)
  xin : List XinR
  fuel : Nat
def Prg.G (p : Prg) : Gl := ⟨[], p.defs.map fun r => (r.nm, r.def_ p.excs p.fuel p.nms), p.clss, p.excs⟩
def Prg.row (p : Prg) (nm : Str) : Option DefR := (p.defs.map fun r => (r.nm, r)).lookup nm
theorem lookup_map {α β γ : Type} [BEq γ] (k : α → γ) (f : α → β) (x : γ) : ∀ l : List α, (l.map fun r => (k r, f r)).lookup x = ((l.map fun r => (k r, r)).lookup x).map f
  | [] => rfl
  | r :: l => by
    show (match x == k r with
      | true => some (f r)
      | false => (l.map fun r => (k r, f r)).lookup x) = (match x == k r with
      | true => some r
      | false => (l.map fun r => (k r, r)).lookup x).map f
    cases x == k r with
    | true => rfl
    | false => exact lookup_map k f x l
theorem lookup_in {α β : Type} [BEq α] [LawfulBEq α] {x : α} {y : β} : ∀ {l : List (α × β)}, l.lookup x = some y → (x, y) ∈ l
  | (a, b) :: r, h => by
    have h : (match x == a with
      | true => some b
      | false => r.lookup x) = some y := h
    cases e : x == a with
    | true =>
      rw [e] at h
      cases h
      rw [eq_of_beq e]
      exact List.mem_cons_self
    | false =>
      rw [e] at h
      exact List.mem_cons_of_mem _ (lookup_in h)
theorem Prg.defs_row {p : Prg} {nm : Str} {d : Def} (h : p.G.defs.lookup nm = some d) : ∃ r, p.row nm = some r ∧ r ∈ p.defs ∧ r.nm = nm ∧ d = r.def_ p.excs p.fuel p.nms := by
  have h : (p.defs.map fun r => (r.nm, r.def_ p.excs p.fuel p.nms)).lookup nm = some d := h
  rw [lookup_map (fun r : DefR => r.nm)] at h
  cases e : p.row nm with
  | none =>
    unfold Prg.row at e
    rw [e] at h
    cases h
  | some r =>
    have e' := e
    unfold Prg.row at e'
    rw [e'] at h
    cases h
    obtain ⟨q, hq, eq⟩ := List.mem_map.mp (lookup_in e')
    cases eq
    exact ⟨_, rfl, hq, rfl, rfl⟩
theorem Prg.row_defs {p : Prg} {nm : Str} {r : DefR} (h : p.row nm = some r) : p.G.defs.lookup nm = some (r.def_ p.excs p.fuel p.nms) := by
  show (p.defs.map fun r => (r.nm, r.def_ p.excs p.fuel p.nms)).lookup nm = _
  rw [lookup_map (fun r : DefR => r.nm)]
  unfold Prg.row at h
  rw [h]
  rfl

/-! ### what is looked at -/
def dvB (K : Fg) : He.Dv → Val → Bool
  | .non, .non => true
  | .bl b, .bl c => b == c
  | .int i, .int j => decide (i = j)
  | .str s, .str t => decide (s = tS t)
  | .adr p, .tup [] => match K.lookup (p K) with
    | some ⟨.type c, _, .seq its _, _⟩ => decide (c = "tuple") && decide (its.toList = [])
    | _ => false
  | _, _ => false
def dvL (K : Fg) : List He.Dv → List Val → Bool
  | [], [] => true
  | a :: r, b :: t => dvB K a b && dvL K r t
  | _, _ => false
theorem dv_ok {K : Fg} {a : He.Dv} {v : Val} (h : dvB K a v = true) (w : Wd) : RepV K w v (a.v K) := by
  unfold dvB at h
  split at h
  · exact .non
  · rename_i b c
    obtain rfl : b = c := eq_of_beq h
    exact .bl b
  · rename_i i j
    obtain rfl : i = j := of_decide_eq_true h
    exact .int i
  · rename_i s t
    obtain rfl : s = tS t := of_decide_eq_true h
    exact .str t
  · rename_i p
    split at h
    · rename_i c od its n osl e
      obtain ⟨h1, h2⟩ := and2 h
      have h1 := of_decide_eq_true h1
      have h2 := of_decide_eq_true h2
      have hz : its.size = 0 := by
        rw [← Array.length_toList, h2]
        rfl
      refine .tup (ys := []) (.inr ⟨_, its, n, e, by rw [h1], rfl, by rw [hz]; exact Nat.zero_le _, by rw [h2]; exact .nil⟩) .nil
    · cases h
  · cases h
theorem dvL_ok {K : Fg} (w : Wd) : ∀ {as : List He.Dv} {vs : List Val}, dvL K as vs = true → RepL K w vs (as.map (He.Dv.v K))
  | [], [], _ => .nil
  | a :: r, v :: t, h => by
    obtain ⟨h1, h2⟩ := and2 (show (dvB K a v && dvL K r t) = true from h)
    exact .cons (dv_ok h1 w) (dvL_ok w h2)
def scopeB (N ps : List Str) (sc : Scope) : Bool := sc.kind == .function && !sc.isCoroutine && !sc.isGenerator && decide N.Nodup && decide (N.take ps.length = ps) && ps.all (fun x => match sc.names.lookup x with
  | some .local => true
  | some .cell => true
  | _ => false) && sc.names.all fun y => !(y.2 == .free)
theorem scope_ok {N ps : List Str} {sc : Scope} (h : scopeB N ps sc = true) : FnScope N ps sc := by
  unfold scopeB at h
  simp only [Bool.and_eq_true, Bool.not_eq_true', decide_eq_true_eq, List.all_eq_true] at h
  obtain ⟨⟨⟨⟨⟨⟨h1, h2⟩, h3⟩, h4⟩, h5⟩, h6⟩, h7⟩ := h
  refine ⟨isfn h1, h2, h3, h4, h5, fun x hx => ?_, fun y hy e => ?_⟩
  · have := h6 x hx
    split at this
    · exact .inl (by assumption)
    · exact .inr (by assumption)
    · cases this
  · have := h7 y hy
    rw [e] at this
    cases this
def plainB (a : Arguments) (ps : List Str) : Bool := a.posonlyargs.isEmpty && decide (a.args.map (·.arg) = ps) && a.vararg.isNone && a.kwonlyargs.isEmpty && a.kwarg.isNone && decide ps.Nodup
theorem plain_ok {a : Arguments} {ps : List Str} (h : plainB a ps = true) : Plain a ps ∧ ps.Nodup := by
  unfold plainB at h
  simp only [Bool.and_eq_true, decide_eq_true_eq, List.isEmpty_iff, Option.isNone_iff_eq_none] at h
  obtain ⟨⟨⟨⟨⟨h1, h2⟩, h3⟩, h4⟩, h5⟩, h6⟩ := h
  exact ⟨⟨h1, h2, h3, h4, h5⟩, h6⟩
/-- without the heap -/
def DefR.okB (r : DefR) : Bool := scopeB r.N r.ps r.d.scope && plainB r.d.params r.ps
end EV
/-! TrJ: errors with an own __init__. -/
namespace EV
open PySem PySem.Spec PyProof.Rows L2

def oexB (K : Fg) (C : Addr) : Bool := (match K.lookup C with
  | some ⟨.type t, _, .cls cd, sl⟩ => (match cd.mro, sl.toList with
    | .ref D :: bm, [_, _, _, _, some (.builtin n), _] => decide (t = "type") && (D == C && (decide (n = "ValueError.__new__") && (!cd.hasDel && (cd.hasDict && PySem.HandSPX.refsVE bm))))
    | _, _ => false)
  | _ => false) && (decide (PySem.W.findIn K (.ref C) "__setattr__" = some (some (.builtin "object.__setattr__"))) && (decide (PySem.W.subIn K (.ref C) (.type "BaseException") = some true) && (decide (PySem.W.typeIn K (.ref C) = some (.type "type")) && PySem.W.keepIn K (.ref C))))
theorem oex_ok {K : Fg} {C : Addr} (h : oexB K C = true) : OexC K C := by
  unfold oexB at h
  obtain ⟨h1, h⟩ := and2 h
  obtain ⟨h2, h⟩ := and2 h
  obtain ⟨h3, h⟩ := and2 h
  obtain ⟨h4, h5⟩ := and2 h
  refine ⟨?_, of_decide_eq_true h2, of_decide_eq_true h3, of_decide_eq_true h4, h5⟩
  split at h1
  · rename_i t dd cd sl ho
    split at h1
    · rename_i D bm k0 k1 k2 k3 n k5 hm hs
      obtain ⟨q0, h1⟩ := and2 h1
      obtain ⟨q1, h1⟩ := and2 h1
      obtain ⟨q2, h1⟩ := and2 h1
      obtain ⟨q3, h1⟩ := and2 h1
      obtain ⟨q4, q5⟩ := and2 h1
      obtain ⟨nm, bs, mro, ns, qn, hd, sn, sub, ab, col, del⟩ := cd
      obtain ⟨l⟩ := sl
      have e0 := of_decide_eq_true q0
      have e1 := eq_of_beq q1
      have e2 := of_decide_eq_true q2
      have e3 : del = false := by simpa using q3
      have e4 : hd = true := q4
      have hm : mro = .ref D :: bm := hm
      have hs : l = [k0, k1, k2, k3, some (.builtin n), k5] := hs
      subst e0 e1 e2 e3 e4 hm hs
      exact ⟨nm, qn, ns, bs, bm, sn, sub, ab, col, dd, k0, k1, k2, k3, k5, ho, q5⟩
    · cases h1
  · cases h1
/-- a name at a place, seen -/
def seenB (N : List Str) (sc : Scope) (i : Nat) (x : Str) : Bool := decide (N[i]? = some x) && (match sc.names.lookup x with
  | some .local => true
  | some .cell => true
  | some .free => true
  | _ => false) && okName x
theorem seen_ok {X : Cx} {N : List Str} {sc : Scope} {i : Nat} {x : Str} (h : seenB N sc i x = true) (e1 : X.N = N) (e2 : X.env.scope = sc) : X.N[i]? = some x ∧ Vis X.env.scope x ∧ (x == ("__debug__" : Str)) = false ∧ (x == ("__classdict__" : Str)) = false := by
  unfold seenB at h
  obtain ⟨h, h3⟩ := and2 h
  obtain ⟨h1, h2⟩ := and2 h
  obtain ⟨g1, g2, _⟩ := okName_of h3
  rw [e1, e2]
  refine ⟨of_decide_eq_true h1, ?_, g1, g2⟩
  split at h2
  · exact .inl (by assumption)
  · exact .inr (.inl (by assumption))
  · exact .inr (.inr (by assumption))
  · cases h2
/-- self.f = y, for the fields in a row -/
def xbodyB (N : List Str) (sc : Scope) : List Stmt → List Str → Nat → Bool
  | [], [], _ => true
  | .Assign [.Attribute (.Name x _) fld _] (.Name y _) _ :: r, f :: fs, j => decide (fld = f) && (seenB N sc 0 x && (seenB N sc j y && xbodyB N sc r fs (j + 1)))
  | _, _, _ => false
def placed : List Str → Nat → List (Str × Nat)
  | [], _ => []
  | f :: fs, j => (f, j) :: placed fs (j + 1)
theorem xbody_ok {X : Cx} {N : List Str} {sc : Scope} (e1 : X.N = N) (e2 : X.env.scope = sc) : ∀ {body : List Stmt} {fs : List Str} {j : Nat}, xbodyB N sc body fs j = true → XBody X body (placed fs j)
  | body, fs, j, h => by
    unfold xbodyB at h
    split at h
    · exact .nil
    · rename_i x p1 fld p2 y p3 p4 r f fs j
      obtain ⟨h1, h⟩ := and2 h
      obtain ⟨h2, h⟩ := and2 h
      obtain ⟨h3, h4⟩ := and2 h
      obtain rfl := of_decide_eq_true h1
      obtain ⟨a1, a2, a3, a4⟩ := seen_ok h2 e1 e2
      obtain ⟨b1, b2, b3, b4⟩ := seen_ok h3 e1 e2
      exact .cons a1 a2 a3 a4 b1 b2 b3 b4 (xbody_ok e1 e2 h4)
    · cases h
theorem kept_placed : ∀ (fs : List Str) (j : Nat) (σ : L2.St) (us : List V) (acc : List (Str × V)), us.length = fs.length → (∀ i u, us[i]? = some u → σ[j + i]? = some (some u)) → keptV σ (placed fs j) acc = some ((fs.zip us).reverse ++ acc)
  | [], j, σ, us, acc, hl, h => by
    cases us with
    | nil => rfl
    | cons _ _ => cases hl
  | f :: fs, j, σ, us, acc, hl, h => by
    cases us with
    | nil => cases hl
    | cons u us =>
      have h0 : σ[j]? = some (some u) := h 0 u rfl
      show (match σ[j]? with
        | some (some v) => keptV σ (placed fs (j + 1)) ((f, v) :: acc)
        | _ => none) = _
      rw [h0]
      simp only
      rw [kept_placed fs (j + 1) σ us ((f, u) :: acc) (Nat.succ.inj hl) fun i v e => by
        have := h (i + 1) v e
        rw [show j + 1 + i = j + (i + 1) by omega]
        exact this]
      simp
theorem placed_mem : ∀ {fs : List Str} {j : Nat} {p : Str × Nat}, p ∈ placed fs j → p.1 ∈ fs
  | f :: fs, j, p, h => by
    rcases List.mem_cons.mp h with rfl | h
    · exact List.mem_cons_self
    · exact List.mem_cons_of_mem _ (placed_mem h)
theorem placed_len : ∀ {fs : List Str} {j : Nat}, (placed fs j).length = fs.length
  | [], _ => rfl
  | f :: fs, j => congrArg (· + 1) placed_len
theorem lookAll_full {α : Type} : ∀ {ps : List Str} {us : List α} {r : List (Str × α)}, ps.Nodup → us.length = ps.length → ∀ g : List (Str × α), (∀ p, p ∈ ps → g.lookup p = none) → lookAll (g ++ (ps.zip us ++ r)) ps = some us
  | [], [], r, _, _, g, _ => rfl
  | [], _ :: _, r, _, h, g, _ => nomatch h
  | _ :: _, [], r, _, h, g, _ => nomatch h
  | p :: ps, u :: us, r, nd, h, g, hg => by
    obtain ⟨n1, n2⟩ := List.nodup_cons.mp nd
    have e : g ++ ((p :: ps).zip (u :: us) ++ r) = (g ++ [(p, u)]) ++ (ps.zip us ++ r) := by simp
    have hp : (g ++ ((p :: ps).zip (u :: us) ++ r)).lookup p = some u := by
      rw [List.lookup_append, hg p List.mem_cons_self]
      simp [List.lookup]
    show (match (g ++ ((p :: ps).zip (u :: us) ++ r)).lookup p, lookAll (g ++ ((p :: ps).zip (u :: us) ++ r)) ps with
      | some v, some vs => some (v :: vs)
      | _, _ => none) = _
    rw [hp, e, lookAll_full n2 (Nat.succ.inj h) (g ++ [(p, u)]) fun q hq => by
      rw [List.lookup_append, hg q (List.mem_cons_of_mem _ hq)]
      have : (q == p) = false := by
        rw [beq_eq_false_iff_ne]
        exact fun z => n1 (z ▸ hq)
      simp [List.lookup, this]]
theorem byName_full {α : Type} {ps : List Str} {us : List α} (nd : ps.Nodup) (h : us.length = ps.length) : byName ps us [] [] [] = some us := by
  have e1 : Nat.ble us.length ps.length = true := Nat.ble_eq_true_of_le (Nat.le_of_eq h)
  have := lookAll_full (r := []) nd h [] (fun p _ => rfl)
  unfold byName
  rw [e1]
  simpa using this
def XinR.okB (K : Fg) (r : XinR) (fields : List Str) : Bool := scopeB r.N r.ps r.d.scope && (plainB r.d.params r.ps && (decide (r.ps.length = fields.length + 1) && (decide (fields.length ≤ 900) && (xbodyB r.N r.d.scope r.d.body fields 1 && (decide (r.d.at_ = (r.C, some ("__init__" : Str))) && (r.d.dfl.isEmpty && (r.d.kwd.isEmpty &&
  (oexB K (He.ga K r.C) && (decide (PySem.W.findIn K (.ref (He.ga K r.C)) "__init__" = some (some (.ref (He.fAd K r.d.at_)))) && (PySem.W.isFn K (.ref (He.fAd K r.d.at_)) && fields.all fun f => decide (PySem.W.findIn K (.ref (He.ga K r.C)) f = some none)))))))))))
theorem xin_ok {K : Fg} {r : XinR} {fields : List Str} {fd : FuncData} (h0 : fields ≠ []) (F : FunD K r.d.name r.d.qual r.d.params r.d.body r.d.scope (r.d.dvs K) (r.d.kws K) (He.fAd K r.d.at_) fd) (h : r.okB K fields = true) : fields.length ≤ 900 ∧ ExF K r.C fields (He.fAd K r.d.at_) fd r.ps := by
  unfold XinR.okB at h
  obtain ⟨h1, h⟩ := and2 h
  obtain ⟨h2, h⟩ := and2 h
  obtain ⟨h3, h⟩ := and2 h
  obtain ⟨h4, h⟩ := and2 h
  obtain ⟨h5, h⟩ := and2 h
  obtain ⟨h6, h⟩ := and2 h
  obtain ⟨h7, h⟩ := and2 h
  obtain ⟨h8, h⟩ := and2 h
  obtain ⟨h9, h⟩ := and2 h
  obtain ⟨h10, h⟩ := and2 h
  obtain ⟨h11, h12⟩ := and2 h
  have hps := of_decide_eq_true h3
  have T := oex_ok h9
  obtain ⟨hpl, hnd⟩ := plain_ok h2
  have hlen : (placed fields 1).length ≤ 900 := by rw [placed_len]; exact of_decide_eq_true h4
  refine ⟨of_decide_eq_true h4, T, of_decide_eq_true h10, ?_, fun P w mg base CXx => ?_, ?_⟩
  · exact eq_of_beq h11
  · have := initX_ok (P := P) (w := w) (mg := mg) (base := base) (CXx := CXx) (out := fun vs => (fields.zip vs.tail).reverse) F (scope_ok h1) T (l := placed fields 1) (by
      cases fields with
      | nil => exact absurd rfl h0
      | cons _ _ => exact List.cons_ne_nil _ _) (fun p hp => of_decide_eq_true (List.all_eq_true.mp h12 _ (placed_mem hp))) hlen (fun X e1 e2 => xbody_ok e1 e2 h5) (fun vs hv => by
      cases vs with
      | nil => rw [hps] at hv; cases hv
      | cons v us =>
        have hu : us.length = fields.length := by
          rw [hps] at hv
          exact Nat.succ.inj hv
        rw [kept_placed fields 1 _ us [] hu (fun i u e => by
          have hi : i < us.length := (List.getElem?_eq_some_iff.mp e).1
          unfold L2.start
          rw [List.getElem?_append_left (by rw [List.length_map, List.length_cons]; omega), List.getElem?_map, show 1 + i = i + 1 by omega, List.getElem?_cons_succ, e]
          rfl)]
        simp) (by omega)
    rw [hps] at this
    exact this
  · intro s us hk hl
    rw [List.append_nil] at hl ⊢
    have ed : r.d.dvs K = [] := by
      show r.d.dfl.map (He.Dv.v K) = []
      rw [List.isEmpty_iff.mp h7]
      rfl
    rw [ed] at F
    have F' : FunD K r.d.name r.d.qual r.d.params r.d.body r.d.scope [] (r.d.kws K) (He.fAd K (Def.mk r.d.at_ r.ps [] 0 .nil false).at_) fd := F
    obtain ⟨_, _, dvs, es, q1, q2, q3⟩ := defOk_of (d := Def.mk r.d.at_ r.ps [] 0 .nil false) F' h11 hpl hnd (fun w => .nil)
    have hd : dvs = [] := by
      have z := q1 (wd0 fun _ => none)
      cases z
      rfl
    subst hd
    cases q2
    exact q3 s us [] us [] hk (byName_full hnd hl)
end EV
/-! TrK: what stands behind the head. -/
namespace EV
open PySem PySem.Spec PyProof.Rows L2

section
variable (K : Fg) (p : Prg)
def Prg.nmB (x : Str) (k : NK) : Bool := match k with
  | .fn f => decide (x = f) && ((match p.row f with
    | some r => decide (r.d.at_ = (f, none))
    | none => false) && ((p.clss.lookup f).isNone && (He.Fa.glo x).ok K))
  | .cls C => decide (x = C) && ((match p.clss.lookup C with
    | some c => (c.meths.lookup ("__init__" : Str)).isSome
    | none => false) && (He.Fa.glo x).ok K)
  | .exc C => decide (x = C) && ((p.excs.lookup C).isSome && (He.Fa.glo x).ok K)
  | .con v => (match PySem.W.nsIn K mainGlobals x with
    | some (some u) => conB K 40 v u
    | _ => false)
  | .bi => (He.Fa.free x).ok K
def Prg.methB (C m nm : Str) : Bool := (match p.row nm with
  | some r => decide (r.d.at_ = (C, some m))
  | none => false) && ((He.Fa.meth C m).ok K && (!(decide (m = ("__init__" : Str))) || (He.Fa.mkr C).ok K))
def kitB (a b : Value) (x : Bool) : Bool := decide (PySem.W.kitOne K a b = some x)
def ownB (C : Str) : Bool := decide (PySem.W.findIn K (.ref (He.ga K C)) "__class__" = some (some (.builtin "object.__class__"))) && decide (PySem.W.mroIn K (He.ga K C) (.type "object") = some true)
def Prg.clsB (C : Str) (c : ClsI) : Bool := (He.Fa.cls C).ok K && ((c.meths.all fun y => p.methB K C y.1 y.2) && ((c.flds.all fun x => (He.Fa.noat C x).ok K) && ((tyNames.all fun a => kitB K (.type a) (.ref (He.ga K C)) false) && ((tyTo.all fun b => kitB K (.ref (He.ga K C)) (.type b) false) &&
  ((p.clss.all fun y => kitB K (.ref (He.ga K C)) (.ref (He.ga K y.1)) (C == y.1)) && ownB K C)))))
def Prg.excB (C : Str) (i : ExcI) : Bool := xfB K (He.ga K C) && ((i.fields.all fun n => decide (PySem.W.findIn K (.ref (He.ga K C)) n = some none)) && ((PySem.W.clsIn K (He.ga K C)).isSome && (ownB K C && ((p.excs.all fun y => decide (PySem.W.exmOne K (.ref (He.ga K C)) (.ref (He.ga K y.1)) = some (i.bases.contains y.1)) && kitB K (.ref (He.ga K C)) (.ref (He.ga K y.1)) (i.bases.contains y.1)) &&
  (decide (PySem.W.subIn K (.ref (He.ga K C)) (.type "BaseException") = some true) && (decide (PySem.W.typeIn K (.ref (He.ga K C)) = some (.type "type")) && (PySem.W.keepIn K (.ref (He.ga K C)) && (if i.fields.isEmpty then (He.Fa.exc C).ok K else p.xin.any fun r => decide (r.C = C) && r.okB K i.fields))))))))
def gsB : Bool := decide (PySem.W.specialIn K (.builtin "object.__class__") "__get__" = some (some (.builtin "getset_descriptor.__get__"))) && decide (PySem.W.takesIn K (.builtin "object.__class__") = some true)
/-- all that is asked of the module -/
def Prg.okB : Bool := (p.nms.all fun y => p.nmB K y.1 y.2) && ((p.defs.all fun r => PySem.W.isFn K (.ref (He.fAd K r.d.at_)) && dvL K r.d.dfl r.dfl) && ((p.clss.all fun y => p.clsB K y.1 y.2) && ((p.excs.all fun y => p.excB K y.1 y.2) && ((tyNames.all fun a => tyTo.all fun b => kitB K (.type a) (.type b) (subT a b)) && gsB K))))
/-- .. of the text alone -/
def Prg.okS : Bool := (p.defs.all fun r => r.okB) && p.clss.all fun y => (y.2.meths.lookup ("__eq__" : Str)).isNone && (y.2.meths.lookup ("__len__" : Str)).isNone
def Prg.fn : List He.DefD := p.defs.map (·.d) ++ p.xin.map (·.d)
end
section
variable {K : Fg} {p : Prg} {mg : Str → Option Value} {h : Heap}
theorem kit_ok {a b : Value} {x : Bool} (h : kitB K a b x = true) : PySem.W.kitOne K a b = some x := of_decide_eq_true h
theorem all_at {α β : Type} [BEq α] [LawfulBEq α] {f : α × β → Bool} {l : List (α × β)} {x : α} {y : β} (h : l.all f = true) (e : l.lookup x = some y) : f (x, y) = true := List.all_eq_true.mp h _ (lookup_in e)
theorem nm_ok (KX : K.In h) (hn : h.Ns mainGlobals mg) (ha : (p.nms.all fun y => p.nmB K y.1 y.2) = true) : NmOkG K mg p.G p.nms := fun x k e => by
  have q : p.nmB K x k = true := all_at ha e
  cases k with
  | fn f =>
    obtain ⟨q1, q⟩ := and2 (show (decide (x = f) && _) = true from q)
    obtain ⟨q2, q⟩ := and2 q
    obtain ⟨q3, q4⟩ := and2 q
    obtain rfl := of_decide_eq_true q1
    split at q2
    · rename_i r hr
      have ea : r.d.at_ = (x, none) := of_decide_eq_true q2
      have em := He.glo_ok KX hn q4
      have ef : He.fAd K r.d.at_ = He.ga K x := by
        rw [ea]
        rfl
      exact ⟨_, Prg.row_defs hr, Option.isNone_iff_eq_none.mp q3, by rw [em]; exact congrArg (fun z => some (Value.ref z)) ef.symm, ef⟩
    · cases q2
  | cls C =>
    obtain ⟨q1, q⟩ := and2 (show (decide (x = C) && _) = true from q)
    obtain ⟨q2, q4⟩ := and2 q
    obtain rfl := of_decide_eq_true q1
    split at q2
    · rename_i c hc
      obtain ⟨i, hi⟩ := Option.isSome_iff_exists.mp q2
      exact ⟨c, i, hc, hi, He.glo_ok KX hn q4⟩
    · cases q2
  | exc C =>
    obtain ⟨q1, q⟩ := and2 (show (decide (x = C) && _) = true from q)
    obtain ⟨q2, q4⟩ := and2 q
    obtain rfl := of_decide_eq_true q1
    obtain ⟨i, hi⟩ := Option.isSome_iff_exists.mp q2
    exact ⟨i, hi, He.glo_ok KX hn q4⟩
  | con v =>
    have q : (match PySem.W.nsIn K mainGlobals x with
      | some (some u) => conB K 40 v u
      | _ => false) = true := q
    split at q
    · rename_i u hu
      obtain ⟨y, r1, r2⟩ := (con_ok (K := K) 40).1 v u q
      exact ⟨u, y, PySem.W.mg_of KX hn hu, r1, r2⟩
    · cases q
  | bi => exact He.free_ok KX hn q
theorem cls_facts (hc : (p.clss.all fun y => p.clsB K y.1 y.2) = true) : ClssOk K p.G ∧ FldsOk K p.G := by
  have at_ : ∀ C c, p.G.clss.lookup C = some c → p.clsB K C c = true := fun C c e => all_at hc e
  refine ⟨fun C c e => ?_, fun C c e x hx => ?_⟩
  · obtain ⟨q1, q⟩ := and2 (show ((He.Fa.cls C).ok K && _) = true from at_ C c e)
    obtain ⟨q2, q⟩ := and2 q
    refine ⟨He.cls_ok q1, fun m nm hm => ?_, fun nm hm d hd ea => ?_⟩
    · obtain ⟨a1, a⟩ := and2 (show _ = true from all_at q2 hm)
      obtain ⟨a2, a3⟩ := and2 a
      split at a1
      · rename_i r hr
        have ea : r.d.at_ = (C, some m) := of_decide_eq_true a1
        refine ⟨_, Prg.row_defs hr, ea, ?_⟩
        have := He.meth_ok a2
        show Meth K (He.ga K C) m (He.fAd K r.d.at_)
        rw [ea]
        exact this
      · cases a1
    · obtain ⟨a1, a⟩ := and2 (show _ = true from all_at q2 hm)
      obtain ⟨a2, a3⟩ := and2 a
      rw [ea]
      refine He.mkr_ok ?_
      simpa using a3
  · obtain ⟨q1, q⟩ := and2 (show ((He.Fa.cls C).ok K && _) = true from at_ C c e)
    obtain ⟨q2, q⟩ := and2 q
    obtain ⟨q3, q⟩ := and2 q
    have : x ∈ c.flds := by simpa using hx
    exact He.noat_ok (List.all_eq_true.mp q3 x this)
theorem is_facts (hc : (p.clss.all fun y => p.clsB K y.1 y.2) = true) (hk : (tyNames.all fun a => tyTo.all fun b => kitB K (.type a) (.type b) (subT a b)) = true) (hg : gsB K = true) : IsOk K p.G := by
  have at_ : ∀ C c, p.G.clss.lookup C = some c → (tyNames.all fun a => kitB K (.type a) (.ref (He.ga K C)) false) = true ∧ (tyTo.all fun b => kitB K (.ref (He.ga K C)) (.type b) false) = true ∧ (p.clss.all fun y => kitB K (.ref (He.ga K C)) (.ref (He.ga K y.1)) (C == y.1)) = true ∧ ownB K C = true := fun C c e => by
    obtain ⟨q1, q⟩ := and2 (show ((He.Fa.cls C).ok K && _) = true from all_at hc e)
    obtain ⟨q2, q⟩ := and2 q
    obtain ⟨q3, q⟩ := and2 q
    obtain ⟨q4, q⟩ := and2 q
    obtain ⟨q5, q⟩ := and2 q
    obtain ⟨q6, q7⟩ := and2 q
    exact ⟨q4, q5, q6, q7⟩
  obtain ⟨g1, g2⟩ := and2 hg
  refine ⟨fun a ha b hb => kit_ok (List.all_eq_true.mp (List.all_eq_true.mp hk a ha) b hb), fun a ha C c e => kit_ok (List.all_eq_true.mp (at_ C c e).1 a ha), fun b hb C c e => kit_ok (List.all_eq_true.mp (at_ C c e).2.1 b hb), fun C c D d e e' => kit_ok (all_at (at_ C c e).2.2.1 e'), fun C c e => ?_, of_decide_eq_true g1, of_decide_eq_true g2⟩
  obtain ⟨o1, o2⟩ := and2 (at_ C c e).2.2.2
  exact ⟨of_decide_eq_true o1, of_decide_eq_true o2⟩
theorem exc_parts {C : Str} {i : ExcI} (q : p.excB K C i = true) : XfC K (He.ga K C) ∧ (∀ n ∈ i.fields, PySem.W.findIn K (.ref (He.ga K C)) n = some none) ∧ (PySem.W.clsIn K (He.ga K C)).isSome = true ∧ ownB K C = true ∧
    (∀ D j, p.excs.lookup D = some j → PySem.W.exmOne K (.ref (He.ga K C)) (.ref (He.ga K D)) = some (i.bases.contains D) ∧ PySem.W.kitOne K (.ref (He.ga K C)) (.ref (He.ga K D)) = some (i.bases.contains D)) ∧
    PySem.W.subIn K (.ref (He.ga K C)) (.type "BaseException") = some true ∧ PySem.W.typeIn K (.ref (He.ga K C)) = some (.type "type") ∧ PySem.W.keepIn K (.ref (He.ga K C)) = true ∧ (if i.fields.isEmpty then (He.Fa.exc C).ok K else p.xin.any fun r => decide (r.C = C) && r.okB K i.fields) = true := by
  unfold Prg.excB at q
  obtain ⟨q1, q⟩ := and2 q
  obtain ⟨q2, q⟩ := and2 q
  obtain ⟨q3, q⟩ := and2 q
  obtain ⟨q4, q⟩ := and2 q
  obtain ⟨q5, q⟩ := and2 q
  obtain ⟨q6, q⟩ := and2 q
  obtain ⟨q7, q⟩ := and2 q
  obtain ⟨q8, q9⟩ := and2 q
  refine ⟨xfB_ok q1, fun n hn => of_decide_eq_true (List.all_eq_true.mp q2 n hn), q3, q4, fun D j e => ?_, of_decide_eq_true q6, of_decide_eq_true q7, q8, q9⟩
  obtain ⟨z1, z2⟩ := and2 (show _ = true from all_at q5 e)
  exact ⟨of_decide_eq_true z1, kit_ok z2⟩
theorem exs_facts (hc : (p.excs.all fun y => p.excB K y.1 y.2) = true) (hg : gsB K = true) : ExsOk K p.G := by
  have at_ := fun C i (e : p.G.excs.lookup C = some i) => exc_parts (K := K) (p := p) (C := C) (i := i) (all_at hc e)
  obtain ⟨g1, g2⟩ := and2 hg
  refine ⟨fun C i e => (at_ C i e).1, fun C i e n hn => (at_ C i e).2.1 n (by simpa using hn), fun C i e => ?_, ⟨of_decide_eq_true g1, of_decide_eq_true g2⟩, fun C i D j e e' => ((at_ C i e).2.2.2.2.1 D j e').1, fun C i D j e e' => ((at_ C i e).2.2.2.2.1 D j e').2⟩
  obtain ⟨_, _, a3, a4, _⟩ := at_ C i e
  obtain ⟨o1, o2⟩ := and2 a4
  exact ⟨a3, of_decide_eq_true o1, of_decide_eq_true o2⟩
theorem raise_facts {fa : List He.Fa} {fn : List He.DefD} (c : He.SaysD fa fn K) (hf : ∀ d ∈ p.fn, d ∈ fn) (hc : (p.excs.all fun y => p.excB K y.1 y.2) = true) : RaiseOk K p.G := fun C i e => by
  obtain ⟨_, _, _, _, _, a6, a7, a8, a9⟩ := exc_parts (K := K) (p := p) (C := C) (i := i) (all_at hc e)
  refine ⟨a6, a7, a8, fun h0 => ?_, fun h0 => ?_⟩
  · rw [h0] at a9
    exact ⟨_, _, _, _, PySem.F.excBase_ValueError, (He.exc_ok a9).1⟩
  · have hne : i.fields.isEmpty = false := by
      cases ef : i.fields with
      | nil => exact absurd ef h0
      | cons _ _ => rfl
    rw [hne] at a9
    obtain ⟨r, hr, hb⟩ := List.any_eq_true.mp a9
    obtain ⟨b1, b2⟩ := and2 hb
    have b1 := of_decide_eq_true b1
    obtain ⟨fd, F⟩ := c.defs (d := r.d) (hf _ (List.mem_append_right _ (List.mem_map_of_mem hr)))
    obtain ⟨k1, k2⟩ := xin_ok h0 F b2
    rw [b1] at k2
    exact ⟨k1, _, _, _, k2⟩
/-- ALL THAT THE WALK ASKS -/
theorem facts {fa : List He.Fa} {fn : List He.DefD} (KX : K.In h) (hn : h.Ns mainGlobals mg) (c : He.SaysD fa fn K) (hf : ∀ d ∈ p.fn, d ∈ fn) (hB : p.okB K = true) (hS : p.okS = true) :
    ∃ fdm : Str → FuncData, PF K mg p.G fdm p.nms ∧ RaiseOk K p.G ∧ ∀ nm d, p.G.defs.lookup nm = some d → DefG K p.G fdm p.fuel p.nms nm d := by
  unfold Prg.okB at hB
  obtain ⟨b1, hB⟩ := and2 hB
  obtain ⟨b2, hB⟩ := and2 hB
  obtain ⟨b3, hB⟩ := and2 hB
  obtain ⟨b4, hB⟩ := and2 hB
  obtain ⟨b5, b6⟩ := and2 hB
  unfold Prg.okS at hS
  obtain ⟨s1, s2⟩ := and2 hS
  have fds : ∀ nm, ∃ fd, ∀ r, p.row nm = some r → FunD K r.d.name r.d.qual r.d.params r.d.body r.d.scope (r.d.dvs K) (r.d.kws K) (He.fAd K r.d.at_) fd := fun nm => by
    cases e : p.row nm with
    | none => exact ⟨default, fun r z => nomatch z⟩
    | some r =>
      have hm : r ∈ p.defs := by
        obtain ⟨q, hq, eq⟩ := List.mem_map.mp (lookup_in e)
        cases eq
        exact hq
      obtain ⟨fd, F⟩ := c.defs (d := r.d) (hf _ (List.mem_append_left _ (List.mem_map_of_mem hm)))
      exact ⟨fd, fun r' z => by
        cases z
        exact F⟩
  obtain ⟨fdm, hfd⟩ := Classical.axiomOfChoice fds
  have stat : ∀ r ∈ p.defs, FnScope r.N r.ps r.d.scope ∧ (Plain r.d.params r.ps ∧ r.ps.Nodup) ∧ ∀ w, RepL K w r.dfl (r.d.dvs K) := fun r hr => by
    have q := List.all_eq_true.mp s1 r hr
    unfold DefR.okB at q
    obtain ⟨q1, q2⟩ := and2 q
    exact ⟨scope_ok q1, plain_ok q2, fun w => dvL_ok w (and2 (List.all_eq_true.mp b2 r hr)).2⟩
  obtain ⟨c1, c2⟩ := cls_facts b3
  refine ⟨fdm, ⟨nm_ok KX hn b1, fun nm d e => ?_, c1, c2, is_facts b3 b5 b6, exs_facts b4 b6, fun C cc e => ?_⟩, raise_facts c hf b4, fun nm d e => ?_⟩
  · obtain ⟨r, e1, e2, e3, rfl⟩ := Prg.defs_row e
    obtain ⟨t1, ⟨t2, t3⟩, t4⟩ := stat r e2
    exact defOk_of (d := r.def_ p.excs p.fuel p.nms) (hfd nm r e1) (and2 (List.all_eq_true.mp b2 r e2)).1 t2 t3 t4
  · obtain ⟨z1, z⟩ := and2 (show _ = true from all_at s2 e)
    exact ⟨Option.isNone_iff_eq_none.mp z1, Option.isNone_iff_eq_none.mp z⟩
  · obtain ⟨r, e1, e2, e3, rfl⟩ := Prg.defs_row e
    obtain ⟨t1, _, _⟩ := stat r e2
    exact ⟨r.N, _, _, _, _, _, _, _, r.hint, hfd nm r e1, t1, rfl, rfl⟩
end
end EV
/-! TrL: a law by its record. -/
namespace EV
open PySem PySem.Spec PyProof.Rows L2

theorem walk_own {l : PySem.W.OpenLaw} {n m : Nat} {q : Program} {loose : List Str} {XP : (Str → Option Value) → Heap → Prop} {p : Prg} {d : DefRec} {rL : DefR} {x : Str} {j : Nat} {fa : List He.Fa} (hn : l.most = some n) (hn2 : n ≤ sizeLine) (hdf : d.params.defaults = []) (hr : Room (2 * m + 1) callerA) (hrow : p.row d.name = some rL)
    (hnm : p.nms.lookup d.name = some (.fn d.name)) (hps : rL.ps = [x]) (hdl : rL.dfl = []) (hS : p.okS = true) (hlaw : ∀ ns : List Int, ns.length ≤ n → ∃ cs, callN p.G m d.name [.scr ns] 0 [] = .ok (.bl true) cs) :
    PySem.W.WalkO q loose XP (He.hookX j fa p.fn [] [] fun K => p.okB K).says l.row.toRowW d [] (fun f vs => PySem.call f vs) := by
  refine Att.attach_call hn hdf fun w s₀ s₁ mg mb fa o pm cd doc a vs ns G Y ho hd hcd hmg hobj hints hlen hg => ?_
  obtain ⟨K, KX, c⟩ := Y
  obtain ⟨fdm, pf, rz, dg⟩ := facts (p := p) KX G.T.g c.t.d (fun _ z => z) c.more hS
  obtain ⟨dL, e1, _, e2, e3⟩ := pf.names _ _ hnm
  have e4 := Prg.row_defs hrow
  rw [e1] at e4
  cases e4
  have ea : He.fAd K rL.d.at_ = fa := by
    rw [hmg] at e2
    cases e2
    rfl
  have hD := pf.defs _ _ e1
  refine law_own (m := m) (nm := d.name) KX G.T.g G.T.b G.T.builtins G.T.nolimit hg hobj hints (Nat.le_trans hlen hn2) hr e1 (x := x) hps ea (fun u => ?_) (fun base => calls_ok pf rz dg m) (hlaw ns hlen)
  obtain ⟨_, _, dvs, es, q1, q2, q3⟩ := hD
  have q1 : ∀ w, RepL K w rL.dfl dvs := q1
  have hdv : dvs = [] := by
    have z := q1 (wd0 fun _ => none)
    rw [hdl] at z
    cases z
    rfl
  subst hdv
  cases q2
  have := q3 s₁ [u] [] [u] [] KX (by
    show byName rL.ps [u] [] [] [] = some [u]
    rw [hps]
    exact byName_full (by simp) rfl)
  have this : BindsTo s₁ (fdm d.name) ⟨[u], []⟩ (rL.ps.zip [u]) := this
  rw [hps] at this
  exact this
end EV
namespace PX
open PySem PySem.Spec PyProof.Rows L2 EV
def top (i : Nat) : Stmt := PySem.Challenge.pw_furtherfile_k66_alike_refused.main.body.getD i (.Pass ⟨0, 0, 0, 0⟩)
def mem (i j : Nat) : Stmt := match top i with
  | .ClassDef _ _ _ body _ _ _ _ _ _ _ => body.getD j (.Pass ⟨0, 0, 0, 0⟩)
  | s => s
def r_is_word : DefR := ⟨"is_word", ["thing", "letter"], [], ⟨("is_word", none), "is_word", "is_word", defArgs (top 13), defBody (top 13), defScope (top 13), [], []⟩, [], false, ["thing"]⟩
def r_is_value : DefR := ⟨"is_value", ["thing"], [], ⟨("is_value", none), "is_value", "is_value", defArgs (top 14), defBody (top 14), defScope (top 14), [], []⟩, [], false, ["thing"]⟩
def r_is_path : DefR := ⟨"is_path", ["thing", "folder", "slash", "name"], [], ⟨("is_path", none), "is_path", "is_path", defArgs (top 15), defBody (top 15), defScope (top 15), [], []⟩, [], false, ["thing"]⟩
def r_is_operation : DefR := ⟨"is_operation", ["thing"], [], ⟨("is_operation", none), "is_operation", "is_operation", defArgs (top 16), defBody (top 16), defScope (top 16), [], []⟩, [], false, ["thing"]⟩
def r_is_setting : DefR := ⟨"is_setting", ["thing"], [], ⟨("is_setting", none), "is_setting", "is_setting", defArgs (top 17), defBody (top 17), defScope (top 17), [], []⟩, [], false, ["thing"]⟩
def r_is_reading : DefR := ⟨"is_reading", ["thing"], [], ⟨("is_reading", none), "is_reading", "is_reading", defArgs (top 18), defBody (top 18), defScope (top 18), [], []⟩, [], false, ["thing"]⟩
def r_is_line : DefR := ⟨"is_line", ["thing"], [], ⟨("is_line", none), "is_line", "is_line", defArgs (top 19), defBody (top 19), defScope (top 19), [], []⟩, [], false, ["thing"]⟩
def r_next_word : DefR := ⟨"next_word", ["word", "stem"], [], ⟨("next_word", none), "next_word", "next_word", defArgs (top 20), defBody (top 20), defScope (top 20), [], []⟩, [], false, ["word"]⟩
def r_least_word_without : DefR := ⟨"least_word_without", ["words", "known", "word"], [], ⟨("least_word_without", none), "least_word_without", "least_word_without", defArgs (top 21), defBody (top 21), defScope (top 21), [], []⟩, [], false, ["words"]⟩
def r_hosts_and_one : DefR := ⟨"hosts_and_one", ["hosts"], [], ⟨("hosts_and_one", none), "hosts_and_one", "hosts_and_one", defArgs (top 22), defBody (top 22), defScope (top 22), [], []⟩, [], false, ["hosts"]⟩
def r_parts_of : DefR := ⟨"parts_of", ["operation", "kind"], [], ⟨("parts_of", none), "parts_of", "parts_of", defArgs (top 25), defBody (top 25), defScope (top 25), [], []⟩, [], false, ["operation"]⟩
def r_behind : DefR := ⟨"behind", ["parts", "held", "value"], [], ⟨("behind", none), "behind", "behind", defArgs (top 26), defBody (top 26), defScope (top 26), [], []⟩, [], false, ["parts", "held"]⟩
def r_followed : DefR := ⟨"followed", ["first", "second", "struck"], [], ⟨("followed", none), "followed", "followed", defArgs (top 27), defBody (top 27), defScope (top 27), [], []⟩, [], false, ["first", "second"]⟩
def r_parts_of_all : DefR := ⟨"parts_of_all", ["operations", "found", "operation"], [], ⟨("parts_of_all", none), "parts_of_all", "parts_of_all", defArgs (top 28), defBody (top 28), defScope (top 28), [], []⟩, [], false, ["operations"]⟩
def r_fewest_for : DefR := ⟨"fewest_for", ["parts", "found"], [], ⟨("fewest_for", none), "fewest_for", "fewest_for", defArgs (top 29), defBody (top 29), defScope (top 29), [], []⟩, [], false, ["parts"]⟩
def r_fewest_for_all : DefR := ⟨"fewest_for_all", ["worth", "value"], [], ⟨("fewest_for_all", none), "fewest_for_all", "fewest_for_all", defArgs (top 30), defBody (top 30), defScope (top 30), [], []⟩, [], false, ["worth"]⟩
def r_fewest_for_some : DefR := ⟨"fewest_for_some", ["unset", "struck", "added", "strikes", "ahead", "between", "value"], [], ⟨("fewest_for_some", none), "fewest_for_some", "fewest_for_some", defArgs (top 31), defBody (top 31), defScope (top 31), [], []⟩, [], false, ["unset", "struck", "added"]⟩
def r_check_lines : DefR := ⟨"check_lines", ["path", "lines", "index", "line"], [], ⟨("check_lines", none), "check_lines", "check_lines", defArgs (top 35), defBody (top 35), defScope (top 35), [], []⟩, [], false, ["path", "lines"]⟩
def r_is_file : DefR := ⟨"is_file", ["thing"], [], ⟨("is_file", none), "is_file", "is_file", defArgs (top 36), defBody (top 36), defScope (top 36), [], []⟩, [], false, ["thing"]⟩
def r_checked : DefR := ⟨"checked", ["files", "found", "index", "item", "path", "lines"], [(142, 12)], ⟨("checked", none), "checked", "checked", defArgs (top 37), defBody (top 37), defScope (top 37), [], []⟩, [], false, ["files"]⟩
def r_plain : DefR := ⟨"plain", ["line"], [], ⟨("plain", none), "plain", "plain", defArgs (top 38), defBody (top 38), defScope (top 38), [], []⟩, [], false, ["line"]⟩
def r_keys_of : DefR := ⟨"keys_of", ["line", "kind", "key", "values", "value"], [], ⟨("keys_of", none), "keys_of", "keys_of", defArgs (top 39), defBody (top 39), defScope (top 39), [], []⟩, [], false, ["line"]⟩
def r_Tree___init__ : DefR := ⟨"Tree.__init__", ["self", "files"], [], ⟨("Tree", some "__init__"), "__init__", "Tree.__init__", defArgs (mem 40 0), defBody (mem 40 0), defScope (mem 40 0), [.adr (He.dflAt (("Tree", some "__init__")) 0)], []⟩, [.tup []], true, ["self", "files"]⟩
def r_Tree___contains__ : DefR := ⟨"Tree.__contains__", ["self", "path"], [], ⟨("Tree", some "__contains__"), "__contains__", "Tree.__contains__", defArgs (mem 40 1), defBody (mem 40 1), defScope (mem 40 1), [], []⟩, [], false, ["self", "path"]⟩
def r_Tree_paths : DefR := ⟨"Tree.paths", ["self"], [], ⟨("Tree", some "paths"), "paths", "Tree.paths", defArgs (mem 40 4), defBody (mem 40 4), defScope (mem 40 4), [], []⟩, [], false, ["self"]⟩
def r_Tree_lines : DefR := ⟨"Tree.lines", ["self", "path"], [], ⟨("Tree", some "lines"), "lines", "Tree.lines", defArgs (mem 40 5), defBody (mem 40 5), defScope (mem 40 5), [], []⟩, [], false, ["self", "path"]⟩
def r_Tree_named_keys : DefR := ⟨"Tree.named_keys", ["self", "lines", "line", "key"], [], ⟨("Tree", some "named_keys"), "named_keys", "Tree.named_keys", defArgs (mem 40 6), defBody (mem 40 6), defScope (mem 40 6), [], []⟩, [], false, ["self"]⟩
def r_Tree_named_hosts : DefR := ⟨"Tree.named_hosts", ["self", "lines", "line"], [], ⟨("Tree", some "named_hosts"), "named_hosts", "Tree.named_hosts", defArgs (mem 40 7), defBody (mem 40 7), defScope (mem 40 7), [], []⟩, [], false, ["self"]⟩
def r_Tree_with_file : DefR := ⟨"Tree.with_file", ["self", "path", "lines"], [], ⟨("Tree", some "with_file"), "with_file", "Tree.with_file", defArgs (mem 40 8), defBody (mem 40 8), defScope (mem 40 8), [], []⟩, [], false, ["self", "path", "lines"]⟩
def r_Tree_without : DefR := ⟨"Tree.without", ["self", "path", "one", "lines"], [], ⟨("Tree", some "without"), "without", "Tree.without", defArgs (mem 40 9), defBody (mem 40 9), defScope (mem 40 9), [], []⟩, [], false, ["self", "path"]⟩
def r_tree_of : DefR := ⟨"tree_of", ["shelf", "made"], [], ⟨("tree_of", none), "tree_of", "tree_of", defArgs (top 41), defBody (top 41), defScope (top 41), [], []⟩, [], false, ["shelf"]⟩
def r_grown : DefR := ⟨"grown", ["tree", "path", "lines"], [], ⟨("grown", none), "grown", "grown", defArgs (top 42), defBody (top 42), defScope (top 42), [], []⟩, [], false, ["tree", "path", "lines"]⟩
def r_check_start : DefR := ⟨"check_start", ["tree", "start"], [], ⟨("check_start", none), "check_start", "check_start", defArgs (top 45), defBody (top 45), defScope (top 45), [], []⟩, [], false, ["tree", "start"]⟩
def r_check_host : DefR := ⟨"check_host", ["host"], [], ⟨("check_host", none), "check_host", "check_host", defArgs (top 46), defBody (top 46), defScope (top 46), [], []⟩, [], false, ["host"]⟩
def r_check_reading : DefR := ⟨"check_reading", ["tree", "start", "host"], [], ⟨("check_reading", none), "check_reading", "check_reading", defArgs (top 47), defBody (top 47), defScope (top 47), [], []⟩, [], false, ["tree", "start", "host"]⟩
def r_Reader___init__ : DefR := ⟨"Reader.__init__", ["self", "tree", "host", "extra"], [(216, 22), (218, 21), (219, 22), (220, 25), (221, 22)], ⟨("Reader", some "__init__"), "__init__", "Reader.__init__", defArgs (mem 48 0), defBody (mem 48 0), defScope (mem 48 0), [], []⟩, [], true, ["self", "tree", "host", "extra"]⟩
def r_Reader_read : DefR := ⟨"Reader.read", ["self", "path", "index", "line"], [], ⟨("Reader", some "read"), "read", "Reader.read", defArgs (mem 48 1), defBody (mem 48 1), defScope (mem 48 1), [], []⟩, [], false, ["self", "path"]⟩
def r_Reader_look : DefR := ⟨"Reader.look", ["self", "path", "index", "line"], [], ⟨("Reader", some "look"), "look", "Reader.look", defArgs (mem 48 2), defBody (mem 48 2), defScope (mem 48 2), [], []⟩, [], false, ["self", "path", "index", "line"]⟩
def r_Reader_read_named : DefR := ⟨"Reader.read_named", ["self", "path", "index", "line", "kind", "goal"], [], ⟨("Reader", some "read_named"), "read_named", "Reader.read_named", defArgs (mem 48 3), defBody (mem 48 3), defScope (mem 48 3), [], []⟩, [], false, ["self", "path", "index", "line"]⟩
def r_Reader_read_folder : DefR := ⟨"Reader.read_folder", ["self", "folder", "path"], [], ⟨("Reader", some "read_folder"), "read_folder", "Reader.read_folder", defArgs (mem 48 4), defBody (mem 48 4), defScope (mem 48 4), [], []⟩, [], false, ["self", "folder"]⟩
def r_reader_of : DefR := ⟨"reader_of", ["tree", "start", "host", "extra", "reader"], [], ⟨("reader_of", none), "reader_of", "reader_of", defArgs (top 49), defBody (top 49), defScope (top 49), [], []⟩, [], false, ["tree", "start", "host", "extra"]⟩
def r_operation_of : DefR := ⟨"operation_of", ["line"], [], ⟨("operation_of", none), "operation_of", "operation_of", defArgs (top 51), defBody (top 51), defScope (top 51), [], []⟩, [], false, ["line"]⟩
def r_after : DefR := ⟨"after", ["state", "line", "parts"], [], ⟨("after", none), "after", "after", defArgs (top 52), defBody (top 52), defScope (top 52), [], []⟩, [], false, ["state", "line"]⟩
def r_state_of : DefR := ⟨"state_of", ["steps", "key", "state", "path", "index", "line"], [], ⟨("state_of", none), "state_of", "state_of", defArgs (top 53), defBody (top 53), defScope (top 53), [], []⟩, [], false, ["steps", "key"]⟩
def r_worth_of : DefR := ⟨"worth_of", ["steps", "key"], [], ⟨("worth_of", none), "worth_of", "worth_of", defArgs (top 54), defBody (top 54), defScope (top 54), [], []⟩, [], false, ["steps", "key"]⟩
def r_operations_of : DefR := ⟨"operations_of", ["steps", "key", "path", "index", "line"], [], ⟨("operations_of", none), "operations_of", "operations_of", defArgs (top 56), defBody (top 56), defScope (top 56), [], []⟩, [], false, ["steps", "key"]⟩
def r_all_hosts : DefR := ⟨"all_hosts", ["trees", "tree", "host"], [], ⟨("all_hosts", none), "all_hosts", "all_hosts", defArgs (top 58), defBody (top 58), defScope (top 58), [], []⟩, [], false, ["trees"]⟩
def r_unread : DefR := ⟨"unread", ["tree", "start", "met", "host", "path"], [(287, 10)], ⟨("unread", none), "unread", "unread", defArgs (top 59), defBody (top 59), defScope (top 59), [], []⟩, [], false, ["tree", "start"]⟩
def r_worths_of : DefR := ⟨"worths_of", ["tree", "start", "hosts", "keys", "found", "host", "steps", "key"], [(292, 12)], ⟨("worths_of", none), "worths_of", "worths_of", defArgs (top 60), defBody (top 60), defScope (top 60), [], []⟩, [], false, ["tree", "start", "hosts", "keys"]⟩
def r_idle_lines : DefR := ⟨"idle_lines", ["tree", "start", "due", "found", "path", "hosts", "keys", "lines", "index", "less"], [(301, 12)], ⟨("idle_lines", none), "idle_lines", "idle_lines", defArgs (top 61), defBody (top 61), defScope (top 61), [], []⟩, [], false, ["tree", "start"]⟩
def r_idle_files : DefR := ⟨"idle_files", ["tree", "start", "due", "others", "hosts", "keys", "path"], [], ⟨("idle_files", none), "idle_files", "idle_files", defArgs (top 62), defBody (top 62), defScope (top 62), [], []⟩, [], false, ["tree", "start"]⟩
def r_check_starts : DefR := ⟨"check_starts", ["tree", "other", "start"], [], ⟨("check_starts", none), "check_starts", "check_starts", defArgs (top 63), defBody (top 63), defScope (top 63), [], []⟩, [], false, ["tree", "other", "start"]⟩
def r_told_apart : DefR := ⟨"told_apart", ["tree", "other", "start", "unlike", "keys", "hosts", "rows", "other_rows", "host", "one", "two", "key", "a", "b"], [(322, 13)], ⟨("told_apart", none), "told_apart", "told_apart", defArgs (top 64), defBody (top 64), defScope (top 64), [], []⟩, [], false, ["tree", "other", "start"]⟩
def r_lines_read : DefR := ⟨"lines_read", ["tree", "start", "host", "path", "index", "line"], [], ⟨("lines_read", none), "lines_read", "lines_read", defArgs (top 65), defBody (top 65), defScope (top 65), [], []⟩, [], false, ["tree", "start", "host"]⟩
def r_same_readings : DefR := ⟨"same_readings", ["tree", "other", "start", "hosts", "rows", "one", "host"], [], ⟨("same_readings", none), "same_readings", "same_readings", defArgs (top 66), defBody (top 66), defScope (top 66), [], []⟩, [], false, ["tree", "other", "start"]⟩
def r_merged : DefR := ⟨"merged", ["tree", "start", "host", "steps", "found", "key", "operations", "operation"], [(336, 12)], ⟨("merged", none), "merged", "merged", defArgs (top 67), defBody (top 67), defScope (top 67), [], []⟩, [], false, ["tree", "start", "host"]⟩
def r__law_pot : DefR := ⟨"_law_pot", ["_law_script", "_law_k", "_law_cell"], [(346, 11)], ⟨("_law_pot", none), "_law_pot", "_law_pot", defArgs (top 69), defBody (top 69), defScope (top 69), [], []⟩, [], true, ["_law_script", "_law_k"]⟩
def r__law_dip : DefR := ⟨"_law_dip", ["_law_pot_here", "_law_many", "_law_mixed", "_law_found"], [], ⟨("_law_dip", none), "_law_dip", "_law_dip", defArgs (top 70), defBody (top 70), defScope (top 70), [], []⟩, [], false, ["_law_pot_here", "_law_many"]⟩
def r__law_call : DefR := ⟨"_law_call", ["_law_way", "_law_trunk", "_law_near_one", "_law_begin", "_law_box"], [], ⟨("_law_call", none), "_law_call", "_law_call", defArgs (top 71), defBody (top 71), defScope (top 71), [], []⟩, [], false, ["_law_way", "_law_trunk", "_law_near_one", "_law_begin", "_law_box"]⟩
def r__law_told : DefR := ⟨"_law_told", ["_law_way", "_law_trunk", "_law_near_one", "_law_begin", "_law_box", "_law_found", "e", "_law_good"], [], ⟨("_law_told", none), "_law_told", "_law_told", defArgs (top 72), defBody (top 72), defScope (top 72), [], []⟩, [], false, ["_law_way", "_law_trunk", "_law_near_one", "_law_begin", "_law_box"]⟩
def r__law_right : DefR := ⟨"_law_right", ["_law_pot_here", "_law_word", "_law_trunk", "_law_near_one", "_law_way", "_law_strange", "_law_odd", "_law_half", "_law_due"], [], ⟨("_law_right", none), "_law_right", "_law_right", defArgs (top 73), defBody (top 73), defScope (top 73), [], []⟩, [], false, ["_law_pot_here"]⟩
def r_law : DefR := ⟨"law", ["_law_script", "_law_k", "_law_pot_here", "_law_lap"], [], ⟨("law", none), "law", "law", defArgs (top 74), defBody (top 74), defScope (top 74), [], []⟩, [], false, ["_law_script"]⟩
def pDefs0 : List DefR := [r_is_word, r_is_value, r_is_path, r_is_operation, r_is_setting, r_is_reading, r_is_line, r_next_word, r_least_word_without, r_hosts_and_one, r_parts_of, r_behind, r_followed, r_parts_of_all, r_fewest_for, r_fewest_for_all, r_fewest_for_some, r_check_lines, r_is_file, r_checked, r_plain, r_keys_of, r_Tree___init__, r_Tree___contains__, r_Tree_paths]
def pDefs1 : List DefR := [r_Tree_lines, r_Tree_named_keys, r_Tree_named_hosts, r_Tree_with_file, r_Tree_without, r_tree_of, r_grown, r_check_start, r_check_host, r_check_reading, r_Reader___init__, r_Reader_read, r_Reader_look, r_Reader_read_named, r_Reader_read_folder, r_reader_of, r_operation_of, r_after, r_state_of, r_worth_of, r_operations_of, r_all_hosts, r_unread, r_worths_of, r_idle_lines]
def pDefs2 : List DefR := [r_idle_files, r_check_starts, r_told_apart, r_lines_read, r_same_readings, r_merged, r__law_pot, r__law_dip, r__law_call, r__law_told, r__law_right, r_law]
def pDefs : List DefR := pDefs0 ++ pDefs1 ++ pDefs2
def pClss0 : List (Str × ClsI) := [("Tree", ⟨[("__init__", "Tree.__init__"), ("__contains__", "Tree.__contains__"), ("paths", "Tree.paths"), ("lines", "Tree.lines"), ("named_keys", "Tree.named_keys"), ("named_hosts", "Tree.named_hosts"), ("with_file", "Tree.with_file"), ("without", "Tree.without")], ["shelf"]⟩), ("Reader", ⟨[("__init__", "Reader.__init__"), ("read", "Reader.read"), ("look", "Reader.look"), ("read_named", "Reader.read_named"), ("read_folder", "Reader.read_folder")], ["source", "host", "extra", "known", "active", "looked", "steps", "wrongs", "paths_met", "counts"]⟩)]
def pClss : List (Str × ClsI) := pClss0
def pExcs0 : List (Str × ExcI) := [("FileError", ⟨[], ["FileError"]⟩), ("NoHost", ⟨[], ["NoHost", "FileError"]⟩), ("TooLong", ⟨[], ["TooLong", "FileError"]⟩), ("NoFile", ⟨["index"], ["NoFile", "FileError"]⟩), ("NoLine", ⟨["path", "index"], ["NoLine", "FileError"]⟩), ("NoPath", ⟨["path"], ["NoPath", "FileError"]⟩)]
def pExcs : List (Str × ExcI) := pExcs0
def pNms0 : List (Str × NK) := [("is_word", .fn "is_word"), ("is_value", .fn "is_value"), ("is_path", .fn "is_path"), ("is_operation", .fn "is_operation"), ("is_setting", .fn "is_setting"), ("is_reading", .fn "is_reading"), ("is_line", .fn "is_line"), ("next_word", .fn "next_word"), ("least_word_without", .fn "least_word_without"), ("hosts_and_one", .fn "hosts_and_one"), ("parts_of", .fn "parts_of"), ("behind", .fn "behind"), ("followed", .fn "followed"), ("parts_of_all", .fn "parts_of_all"), ("fewest_for", .fn "fewest_for"), ("fewest_for_all", .fn "fewest_for_all"), ("fewest_for_some", .fn "fewest_for_some"), ("check_lines", .fn "check_lines"), ("is_file", .fn "is_file"), ("checked", .fn "checked"), ("plain", .fn "plain"), ("keys_of", .fn "keys_of"), ("tree_of", .fn "tree_of"), ("grown", .fn "grown"), ("check_start", .fn "check_start")]
def pNms1 : List (Str × NK) := [("check_host", .fn "check_host"), ("check_reading", .fn "check_reading"), ("reader_of", .fn "reader_of"), ("operation_of", .fn "operation_of"), ("after", .fn "after"), ("state_of", .fn "state_of"), ("worth_of", .fn "worth_of"), ("operations_of", .fn "operations_of"), ("all_hosts", .fn "all_hosts"), ("unread", .fn "unread"), ("worths_of", .fn "worths_of"), ("idle_lines", .fn "idle_lines"), ("idle_files", .fn "idle_files"), ("check_starts", .fn "check_starts"), ("told_apart", .fn "told_apart"), ("lines_read", .fn "lines_read"), ("same_readings", .fn "same_readings"), ("merged", .fn "merged"), ("_law_pot", .fn "_law_pot"), ("_law_dip", .fn "_law_dip"), ("_law_call", .fn "_law_call"), ("_law_told", .fn "_law_told"), ("_law_right", .fn "_law_right"), ("law", .fn "law"), ("Tree", .cls "Tree")]
def pNms2 : List (Str × NK) := [("Reader", .cls "Reader"), ("FileError", .exc "FileError"), ("NoHost", .exc "NoHost"), ("TooLong", .exc "TooLong"), ("NoFile", .exc "NoFile"), ("NoLine", .exc "NoLine"), ("NoPath", .exc "NoPath"), ("LETTERS", .con (.str [97, 98, 99, 100, 101, 102, 103, 104, 105, 106, 107, 108, 109, 110, 111, 112, 113, 114, 115, 116, 117, 118, 119, 120, 121, 122])), ("LONGEST_WORD", .con (.int 8)), ("VALUED", .con (.tup [.str [115, 101, 116], .str [97, 100, 100], .str [115, 116, 114, 105, 107, 101], .str [98, 97, 115, 101]])), ("BARE", .con (.tup [.str [117, 110, 115, 101, 116], .str [115, 104, 117, 116]])), ("IDLE", .con (.tup [.str [115, 111, 109, 101], .non, .tup [], .tup [], .bl false])), ("MOST_FILES", .con (.int 20)), ("MOST_LINES", .con (.int 30)), ("MOST_LOOKED", .con (.int 2000)), ("len", .bi), ("all", .bi), ("tuple", .bi), ("list", .bi), ("sorted", .bi), ("int", .bi), ("abs", .bi), ("max", .bi), ("min", .bi), ("sum", .bi)]
def pNms3 : List (Str × NK) := [("str", .bi), ("bool", .bi), ("isinstance", .bi), ("range", .bi), ("zip", .bi), ("enumerate", .bi), ("repr", .bi), ("set", .bi), ("dict", .bi)]
def pNms : List (Str × NK) := pNms0 ++ pNms1 ++ pNms2 ++ pNms3
def pXin0 : List XinR := [⟨"NoFile", ["self", "index"], ["self", "index"], ⟨("NoFile", some "__init__"), "__init__", "NoFile.__init__", defArgs (mem 5 0), defBody (mem 5 0), defScope (mem 5 0), [], []⟩⟩, ⟨"NoLine", ["self", "path", "index"], ["self", "path", "index"], ⟨("NoLine", some "__init__"), "__init__", "NoLine.__init__", defArgs (mem 6 0), defBody (mem 6 0), defScope (mem 6 0), [], []⟩⟩, ⟨"NoPath", ["self", "path"], ["self", "path"], ⟨("NoPath", some "__init__"), "__init__", "NoPath.__init__", defArgs (mem 7 0), defBody (mem 7 0), defScope (mem 7 0), [], []⟩⟩]
def pXin : List XinR := pXin0
def prg : Prg := ⟨pDefs, pClss, pExcs, pNms, pXin, 60⟩
end PX
set_option maxHeartbeats 0
namespace PX
open PySem PySem.Spec PyProof.Rows L2 EV
def names0 : List PySem.Str := ["_wall", "FileError", "NoHost", "TooLong", "NoFile", "NoLine", "NoPath", "LETTERS", "LONGEST_WORD", "VALUED", "BARE", "is_word", "is_value", "is_path", "is_operation", "is_setting", "is_reading", "is_line", "next_word", "least_word_without", "hosts_and_one", "IDLE", "parts_of", "behind", "followed", "parts_of_all", "fewest_for", "fewest_for_all", "fewest_for_some", "MOST_FILES"]
def names1 : List PySem.Str := ["MOST_LINES", "check_lines", "is_file", "checked", "plain", "keys_of", "Tree", "tree_of", "grown", "MOST_LOOKED", "check_start", "check_host", "check_reading", "Reader", "reader_of", "operation_of", "after", "state_of", "worth_of", "operations_of", "all_hosts", "unread", "worths_of", "idle_lines", "idle_files", "check_starts", "told_apart", "lines_read", "same_readings", "merged"]
def names2 : List PySem.Str := ["_law_pot", "_law_dip", "_law_call", "_law_told", "_law_right"]
def names : List PySem.Str := names0 ++ names1 ++ names2
abbrev R : PySem.W.OpenRow := PySem.W.OpenLaw.row PySem.Challenge.rw_furtherfile_k66_alike_refused
def ex (K : PySem.W.Frag) : Bool := prg.okB K
abbrev hk : PySem.W.Hook := He.hookX 5 [] prg.fn [] [] ex
def ob (s : PySem.W.SharedT) : He.AlX := He.obsX 5 [] prg.fn [] [] ex (HandSHeadRun.getT s)
theorem ob_eq (s : PySem.W.SharedT) : ob s = hk.obs s.abs := He.obsX_eq (HandSHeadRun.getT_eq s)
theorem run (w : World) : HandSHeadRun.RunEq R (PySem.W.view R.prog [74]) hk ob 20000 names w := by
  intro os
  kernel_rfl
theorem okS : prg.okS = true := by decide +kernel
def rLaw : DefR := r_law
theorem row_law : prg.row "law" = some rLaw := by rfl
theorem nm_law : prg.nms.lookup ("law" : PySem.Str) = some (.fn "law") := by rfl
end PX
open PySem PySem.W PySem.Calls PyProof.Rows in
theorem PX.holds (h : ∀ ns : List Int, ns.length ≤ 63 → ∃ cs, EV.callN PX.prg.G 40 "law" [.scr ns] 0 [] = .ok (.bl true) cs) : PySem.Challenge.rw_furtherfile_k66_alike_refused.Holds := by
  w_on; o_law
  refine HandSHeadRun.head_any (r := PX.R) (q := view PX.R.prog [74]) (H := PX.hk) (ob := PX.ob) (M := 20000) (loose := PX.names) (d := HandSHeadRun.topDef PX.R.prog 74) (kwd := []) PX.ob_eq
    (by kernel_rfl) (fun s => by kernel_rfl) PX.run (by kernel_rfl) (by kernel_rfl) (by kernel_rfl) (by rfl) (by first | assumption | decide +kernel) (by decide +kernel) ⟨rfl, rfl, rfl, rfl, rfl, by decide +kernel⟩ ?hw ?hc
  case hw => w_witness2
  case hc => exact EV.walk_own (l := PySem.Challenge.rw_furtherfile_k66_alike_refused) (n := 63) (m := 40) (p := PX.prg) (rL := PX.rLaw) (x := "_law_script") rfl (by decide) (by kernel_rfl) ⟨rfl, by decide, by decide⟩ PX.row_law PX.nm_law rfl rfl PX.okS h
namespace PX
open PySem EV
def b_is_word : Def := ⟨("is_word", none), ["thing"], [], 2, (.cons (.ite (.or (.not (.isi (.var 0) [.str])) (.not (.chn .LtE .LtE (.val (.int 1)) (.blt .len (.cons (.var 0) .nil)) (.val (.int 8))))) (.cons (.ret (.val (.bl false))) .nil) .nil) (.cons (.ret (.blt .all (.cons (.lc (.cmp .In (.var 1) (.val (.str [97, 98, 99, 100, 101, 102, 103, 104, 105, 106, 107, 108, 109, 110, 111, 112, 113, 114, 115, 116, 117, 118, 119, 120, 121, 122]))) [1] (.one (.nm 1) (.seq (.var 0)) .no)) .nil))) .nil)), false⟩
def b_is_value : Def := ⟨("is_value", none), ["thing"], [], 1, (.cons (.ite (.not (.isi (.var 0) [.str])) (.cons (.ret (.val (.bl false))) .nil) .nil) (.cons (.ret (.cll "is_word" (.cons (.ite (.cmp .Eq (.slc (.var 0) .no (.yes (.val (.int 1)))) (.val (.str [64]))) (.slc (.var 0) (.yes (.val (.int 1))) .no) (.var 0)) .nil) [] .nil)) .nil)), false⟩
def b_is_path : Def := ⟨("is_path", none), ["thing"], [], 4, (.cons (.ite (.not (.isi (.var 0) [.str])) (.cons (.ret (.val (.bl false))) .nil) .nil) (.cons (.asg (.tp [1, 2, 3]) (.bm (.var 0) .partition (.cons (.val (.str [47])) .nil))) (.cons (.ret (.and (.cmp .Eq (.var 2) (.val (.str [47]))) (.and (.cll "is_word" (.cons (.var 1) .nil) [] .nil) (.cll "is_word" (.cons (.var 3) .nil) [] .nil)))) .nil))), false⟩
def b_is_operation : Def := ⟨("is_operation", none), ["thing"], [], 1, (.cons (.ite (.or (.not (.isi (.var 0) [.tuple])) (.or (.not (.chn .LtE .LtE (.val (.int 1)) (.blt .len (.cons (.var 0) .nil)) (.val (.int 2)))) (.not (.isi (.idx (.var 0) (.val (.int 0))) [.str])))) (.cons (.ret (.val (.bl false))) .nil) .nil) (.cons (.ite (.cmp .Eq (.blt .len (.cons (.var 0) .nil)) (.val (.int 1))) (.cons (.ret (.cmp .In (.idx (.var 0) (.val (.int 0))) (.val (.tup [(.str [117, 110, 115, 101, 116]), (.str [115, 104, 117, 116])])))) .nil) .nil) (.cons (.ret (.and (.cmp .In (.idx (.var 0) (.val (.int 0))) (.val (.tup [(.str [115, 101, 116]), (.str [97, 100, 100]), (.str [115, 116, 114, 105, 107, 101]), (.str [98, 97, 115, 101])]))) (.cll "is_value" (.cons (.idx (.var 0) (.val (.int 1))) .nil) [] .nil))) .nil))), false⟩
def b_is_setting : Def := ⟨("is_setting", none), ["thing"], [], 1, (.cons (.ite (.or (.not (.isi (.var 0) [.tuple])) (.not (.chn .LtE .LtE (.val (.int 2)) (.blt .len (.cons (.var 0) .nil)) (.val (.int 3))))) (.cons (.ret (.val (.bl false))) .nil) .nil) (.cons (.ret (.and (.cll "is_word" (.cons (.idx (.var 0) (.val (.int 1))) .nil) [] .nil) (.cll "is_operation" (.cons (.bin .Add (.slc (.var 0) .no (.yes (.val (.int 1)))) (.slc (.var 0) (.yes (.val (.int 2))) .no)) .nil) [] .nil))) .nil)), false⟩
def b_is_reading : Def := ⟨("is_reading", none), ["thing"], [], 1, (.cons (.ite (.or (.not (.isi (.var 0) [.tuple])) (.or (.cmp .NotEq (.blt .len (.cons (.var 0) .nil)) (.val (.int 2))) (.not (.isi (.idx (.var 0) (.val (.int 0))) [.str])))) (.cons (.ret (.val (.bl false))) .nil) .nil) (.cons (.ite (.cmp .Eq (.idx (.var 0) (.val (.int 0))) (.val (.str [97, 108, 108]))) (.cons (.ret (.cll "is_word" (.cons (.idx (.var 0) (.val (.int 1))) .nil) [] .nil)) .nil) .nil) (.cons (.ret (.and (.cmp .In (.idx (.var 0) (.val (.int 0))) (.tup (.cons (.val (.str [114, 101, 97, 100])) (.cons (.val (.str [109, 97, 121])) .nil)))) (.cll "is_path" (.cons (.idx (.var 0) (.val (.int 1))) .nil) [] .nil))) .nil))), false⟩
def b_is_line : Def := ⟨("is_line", none), ["thing"], [], 1, (.cons (.ite (.and (.isi (.var 0) [.tuple]) (.and (.cmp .Eq (.blt .len (.cons (.var 0) .nil)) (.val (.int 3))) (.and (.isi (.idx (.var 0) (.val (.int 0))) [.str]) (.cmp .Eq (.idx (.var 0) (.val (.int 0))) (.val (.str [111, 110])))))) (.cons (.ret (.and (.cll "is_word" (.cons (.idx (.var 0) (.val (.int 1))) .nil) [] .nil) (.or (.cll "is_setting" (.cons (.idx (.var 0) (.val (.int 2))) .nil) [] .nil) (.cll "is_reading" (.cons (.idx (.var 0) (.val (.int 2))) .nil) [] .nil)))) .nil) .nil) (.cons (.ret (.or (.cll "is_setting" (.cons (.var 0) .nil) [] .nil) (.cll "is_reading" (.cons (.var 0) .nil) [] .nil))) .nil)), false⟩
def b_next_word : Def := ⟨("next_word", none), ["word"], [], 2, (.cons (.ite (.cmp .Lt (.blt .len (.cons (.var 0) .nil)) (.val (.int 8))) (.cons (.ret (.bin .Add (.var 0) (.val (.str [97])))) .nil) .nil) (.cons (.asg (.nm 1) (.bm (.var 0) .rstrip (.cons (.val (.str [122])) .nil))) (.cons (.ite (.cmp .Eq (.var 1) (.val (.str []))) (.cons (.ret (.val .non)) .nil) .nil) (.cons (.ret (.bin .Add (.slc (.var 1) .no (.yes (.neg (.val (.int 1))))) (.idx (.val (.str [97, 98, 99, 100, 101, 102, 103, 104, 105, 106, 107, 108, 109, 110, 111, 112, 113, 114, 115, 116, 117, 118, 119, 120, 121, 122])) (.bin .Add (.bm (.val (.str [97, 98, 99, 100, 101, 102, 103, 104, 105, 106, 107, 108, 109, 110, 111, 112, 113, 114, 115, 116, 117, 118, 119, 120, 121, 122])) .index (.cons (.idx (.var 1) (.neg (.val (.int 1)))) .nil)) (.val (.int 1)))))) .nil)))), false⟩
def b_least_word_without : Def := ⟨("least_word_without", none), ["words"], [], 3, (.cons (.asg (.nm 1) (.cell (.dc (.var 2) (.val (.bl true)) [2] (.one (.nm 2) (.seq (.var 0)) .no)))) (.cons (.asg (.nm 2) (.val (.str [97]))) (.cons (.whl (.cmp .In (.var 2) (.var 1)) (.cons (.asg (.nm 2) (.cll "next_word" (.cons (.var 2) .nil) [] .nil)) .nil)) (.cons (.ret (.var 2)) .nil)))), false⟩
def b_hosts_and_one : Def := ⟨("hosts_and_one", none), ["hosts"], [], 1, (.cons (.ret (.sst (.lst (.star (.var 0) (.cons (.cll "least_word_without" (.cons (.var 0) .nil) [] .nil) .nil))))) .nil), false⟩
def b_parts_of : Def := ⟨("parts_of", none), ["operation"], [], 2, (.cons (.asg (.nm 1) (.idx (.var 0) (.val (.int 0)))) (.cons (.ite (.cmp .Eq (.var 1) (.val (.str [115, 101, 116]))) (.cons (.ret (.tup (.cons (.val (.str [97, 108, 108])) (.cons (.slc (.var 0) (.yes (.val (.int 1))) .no) (.cons (.val (.bl false)) .nil))))) .nil) .nil) (.cons (.ite (.cmp .Eq (.var 1) (.val (.str [117, 110, 115, 101, 116]))) (.cons (.ret (.tup (.cons (.val (.str [97, 108, 108])) (.cons (.val .non) (.cons (.val (.bl false)) .nil))))) .nil) .nil) (.cons (.ite (.cmp .Eq (.var 1) (.val (.str [115, 116, 114, 105, 107, 101]))) (.cons (.ret (.tup (.cons (.val (.str [115, 111, 109, 101])) (.cons (.val .non) (.cons (.slc (.var 0) (.yes (.val (.int 1))) .no) (.cons (.tup .nil) (.cons (.val (.bl false)) .nil))))))) .nil) .nil) (.cons (.ite (.cmp .Eq (.var 1) (.val (.str [115, 104, 117, 116]))) (.cons (.ret (.tup (.cons (.val (.str [115, 111, 109, 101])) (.cons (.val .non) (.cons (.tup .nil) (.cons (.tup .nil) (.cons (.val (.bl true)) .nil))))))) .nil) .nil) (.cons (.ret (.tup (.cons (.val (.str [115, 111, 109, 101])) (.cons (.slc (.var 0) (.yes (.val (.int 1))) .no) (.cons (.tup .nil) (.cons (.ite (.cmp .Eq (.var 1) (.val (.str [97, 100, 100]))) (.slc (.var 0) (.yes (.val (.int 1))) .no) (.tup .nil)) (.cons (.val (.bl false)) .nil))))))) .nil)))))), false⟩
def b_behind : Def := ⟨("behind", none), ["parts", "held"], [], 3, (.cons (.ite (.or (.cmp .Eq (.idx (.var 0) (.val (.int 0))) (.val (.str [97, 108, 108]))) (.cmp .Is (.var 1) (.val .non))) (.cons (.ret (.idx (.var 0) (.val (.int 1)))) .nil) .nil) (.cons (.ret (.bin .Add (.blt .tuple (.cons (.lc (.var 2) [2] (.one (.nm 2) (.seq (.var 1)) (.yes (.cmp .NotIn (.var 2) (.idx (.var 0) (.val (.int 2))))))) .nil)) (.idx (.var 0) (.val (.int 3))))) .nil)), false⟩
def b_followed : Def := ⟨("followed", none), ["first", "second"], [], 3, (.cons (.ite (.idx (.var 0) (.neg (.val (.int 1)))) (.cons (.ret (.var 0)) .nil) .nil) (.cons (.ite (.cmp .Eq (.idx (.var 1) (.val (.int 0))) (.val (.str [97, 108, 108]))) (.cons (.ret (.var 1)) .nil) .nil) (.cons (.ite (.cmp .Eq (.idx (.var 0) (.val (.int 0))) (.val (.str [97, 108, 108]))) (.cons (.ret (.tup (.cons (.val (.str [97, 108, 108])) (.cons (.cll "behind" (.cons (.var 1) (.cons (.idx (.var 0) (.val (.int 1))) .nil)) [] .nil) (.cons (.idx (.var 1) (.neg (.val (.int 1)))) .nil))))) .nil) .nil) (.cons (.asg (.nm 2) (.blt .tuple (.cons (.sst (.lst (.star (.idx (.var 0) (.val (.int 2))) (.star (.idx (.var 1) (.val (.int 2))) .nil)))) .nil))) (.cons (.ret (.tup (.cons (.val (.str [115, 111, 109, 101])) (.cons (.cll "behind" (.cons (.var 1) (.cons (.idx (.var 0) (.val (.int 1))) .nil)) [] .nil) (.cons (.var 2) (.cons (.cll "behind" (.cons (.var 1) (.cons (.idx (.var 0) (.val (.int 3))) .nil)) [] .nil) (.cons (.idx (.var 1) (.neg (.val (.int 1)))) .nil))))))) .nil))))), false⟩
def b_parts_of_all : Def := ⟨("parts_of_all", none), ["operations"], [], 3, (.cons (.asg (.nm 1) (.val (.tup [(.str [115, 111, 109, 101]), .non, (.tup []), (.tup []), (.bl false)]))) (.cons (.for_ (.nm 2) (.seq (.var 0)) (.cons (.asg (.nm 1) (.cll "followed" (.cons (.var 1) (.cons (.cll "parts_of" (.cons (.var 2) .nil) [] .nil) .nil)) [] .nil)) .nil)) (.cons (.ret (.var 1)) .nil))), false⟩
def b_fewest_for : Def := ⟨("fewest_for", none), ["parts"], [], 2, (.cons (.ite (.cmp .Eq (.idx (.var 0) (.val (.int 0))) (.val (.str [97, 108, 108]))) (.cons (.asg (.nm 1) (.cll "fewest_for_all" (.cons (.idx (.var 0) (.val (.int 1))) .nil) [] .nil)) .nil) (.cons (.asg (.nm 1) (.cll "fewest_for_some" (.cons (.idx (.var 0) (.val (.int 1))) (.cons (.idx (.var 0) (.val (.int 2))) (.cons (.idx (.var 0) (.val (.int 3))) .nil))) [] .nil)) .nil)) (.cons (.ret (.ite (.idx (.var 0) (.neg (.val (.int 1)))) (.lst (.star (.var 1) (.cons (.tup (.cons (.val (.str [115, 104, 117, 116])) .nil)) .nil))) (.var 1))) .nil)), false⟩
def b_fewest_for_all : Def := ⟨("fewest_for_all", none), ["worth"], [], 2, (.cons (.ite (.cmp .Is (.var 0) (.val .non)) (.cons (.ret (.lst (.cons (.tup (.cons (.val (.str [117, 110, 115, 101, 116])) .nil)) .nil))) .nil) .nil) (.cons (.ite (.cmp .Eq (.var 0) (.tup .nil)) (.cons (.ret (.lst (.cons (.tup (.cons (.val (.str [115, 101, 116])) (.cons (.val (.str [97])) .nil))) (.cons (.tup (.cons (.val (.str [115, 116, 114, 105, 107, 101])) (.cons (.val (.str [97])) .nil))) .nil)))) .nil) .nil) (.cons (.ret (.lst (.cons (.tup (.cons (.val (.str [115, 101, 116])) (.cons (.idx (.var 0) (.val (.int 0))) .nil))) (.star (.lc (.tup (.cons (.val (.str [97, 100, 100])) (.cons (.var 1) .nil))) [1] (.one (.nm 1) (.seq (.slc (.var 0) (.yes (.val (.int 1))) .no)) .no)) .nil)))) .nil))), false⟩
def b_fewest_for_some : Def := ⟨("fewest_for_some", none), ["unset", "struck", "added"], [], 7, (.cons (.par [4, 5] (.cons (.lst .nil) (.cons (.lst .nil) .nil))) (.cons (.ite (.and (.cmp .Eq (.var 0) (.tup .nil)) (.cmp .Eq (.var 2) (.tup .nil))) (.cons (.asg (.nm 4) (.lst (.cons (.tup (.cons (.val (.str [98, 97, 115, 101])) (.cons (.idx (.var 1) (.val (.int 0))) .nil))) .nil))) .nil) (.cons (.ite (.and (.cmp .IsNot (.var 0) (.val .non)) (.cmp .NotEq (.var 0) (.var 2))) (.cons (.asg (.nm 5) (.lst (.cons (.tup (.cons (.val (.str [98, 97, 115, 101])) (.cons (.idx (.var 0) (.val (.int 0))) .nil))) .nil))) .nil) .nil) .nil)) (.cons (.asg (.nm 3) (.lc (.tup (.cons (.val (.str [115, 116, 114, 105, 107, 101])) (.cons (.var 6) .nil))) [6] (.one (.nm 6) (.seq (.var 1)) .no))) (.cons (.ret (.lst (.star (.var 4) (.star (.var 3) (.star (.var 5) (.star (.lc (.tup (.cons (.val (.str [97, 100, 100])) (.cons (.var 6) .nil))) [6] (.one (.nm 6) (.seq (.var 2)) .no)) .nil)))))) .nil)))), false⟩
def b_check_lines : Def := ⟨("check_lines", none), ["path", "lines"], [], 4, (.cons (.for_ (.tp [2, 3]) (.enu (.var 1)) (.cons (.ite (.or (.cmp .GtE (.var 2) (.val (.int 30))) (.not (.cll "is_line" (.cons (.var 3) .nil) [] .nil))) (.cons (.rse "NoLine" (.cons (.var 0) (.cons (.var 2) .nil))) .nil) .nil) .nil)) .nil), false⟩
def b_is_file : Def := ⟨("is_file", none), ["thing"], [], 1, (.cons (.ite (.or (.not (.isi (.var 0) [.tuple])) (.cmp .NotEq (.blt .len (.cons (.var 0) .nil)) (.val (.int 2)))) (.cons (.ret (.val (.bl false))) .nil) .nil) (.cons (.ret (.and (.cll "is_path" (.cons (.idx (.var 0) (.val (.int 0))) .nil) [] .nil) (.isi (.idx (.var 0) (.val (.int 1))) [.tuple]))) .nil)), false⟩
def b_checked : Def := ⟨("checked", none), ["files"], [], 6, (.cons (.ite (.not (.isi (.var 0) [.tuple])) (.cons (.rse "NoFile" (.cons (.val (.int 0)) .nil)) .nil) .nil) (.cons (.asg (.nm 1) (.cell (.dct .nil))) (.cons (.for_ (.tp [2, 3]) (.enu (.var 0)) (.cons (.ite (.or (.cmp .GtE (.var 2) (.val (.int 20))) (.or (.not (.cll "is_file" (.cons (.var 3) .nil) [] .nil)) (.cmp .In (.idx (.var 3) (.val (.int 0))) (.var 1)))) (.cons (.rse "NoFile" (.cons (.var 2) .nil)) .nil) .nil) (.cons (.setI (.var 1) (.idx (.var 3) (.val (.int 0))) (.idx (.var 3) (.val (.int 1)))) .nil))) (.cons (.for_ (.tp [4, 5]) (.seq (.var 0)) (.cons (.exp (.cll "check_lines" (.cons (.var 4) (.cons (.var 5) .nil)) [] .nil)) .nil)) (.cons (.ret (.var 1)) .nil))))), false⟩
def b_plain : Def := ⟨("plain", none), ["line"], [], 1, (.cons (.ret (.ite (.cmp .Eq (.idx (.var 0) (.val (.int 0))) (.val (.str [111, 110]))) (.idx (.var 0) (.val (.int 2))) (.var 0))) .nil), false⟩
def b_keys_of : Def := ⟨("keys_of", none), ["line"], [], 5, (.cons (.ite (.not (.cll "is_setting" (.cons (.cll "plain" (.cons (.var 0) .nil) [] .nil) .nil) [] .nil)) (.cons (.ret (.lst .nil)) .nil) .nil) (.cons (.asg (.st [1, 2] 3) (.cll "plain" (.cons (.var 0) .nil) [] .nil)) (.cons (.ret (.lst (.cons (.var 2) (.star (.lc (.slc (.var 4) (.yes (.val (.int 1))) .no) [4] (.one (.nm 4) (.seq (.var 3)) (.yes (.cmp .Eq (.idx (.var 4) (.val (.int 0))) (.val (.str [64])))))) .nil)))) .nil))), false⟩
def b_Tree___init__ : Def := ⟨("Tree", some "__init__"), ["self", "files"], [(.tup [])], 2, (.cons (.setA (.var 0) "shelf" (.cll "checked" (.cons (.var 1) .nil) [] .nil)) .nil), true⟩
def b_Tree___contains__ : Def := ⟨("Tree", some "__contains__"), ["self", "path"], [], 2, (.cons (.ret (.and (.cll "is_path" (.cons (.var 1) .nil) [] .nil) (.cmp .In (.var 1) (.att (.var 0) "shelf")))) .nil), false⟩
def b_Tree_paths : Def := ⟨("Tree", some "paths"), ["self"], [], 1, (.cons (.ret (.blt .tuple (.cons (.blt .sorted (.cons (.att (.var 0) "shelf") .nil)) .nil))) .nil), false⟩
def b_Tree_lines : Def := ⟨("Tree", some "lines"), ["self", "path"], [], 2, (.cons (.ite (.cmp .NotIn (.var 1) (.var 0)) (.cons (.rse "NoPath" (.cons (.var 1) .nil)) .nil) .nil) (.cons (.ret (.idx (.att (.var 0) "shelf") (.var 1))) .nil)), false⟩
def b_Tree_named_keys : Def := ⟨("Tree", some "named_keys"), ["self"], [], 4, (.cons (.ret (.ssc (.var 3) [1, 2, 3] (.more (.nm 1) (.vals (.att (.var 0) "shelf")) .no (.more (.nm 2) (.seq (.var 1)) .no (.one (.nm 3) (.seq (.cll "keys_of" (.cons (.var 2) .nil) [] .nil)) .no))))) .nil), false⟩
def b_Tree_named_hosts : Def := ⟨("Tree", some "named_hosts"), ["self"], [], 3, (.cons (.ret (.ssc (.idx (.var 2) (.val (.int 1))) [1, 2] (.more (.nm 1) (.vals (.att (.var 0) "shelf")) .no (.one (.nm 2) (.seq (.var 1)) (.yes (.cmp .Eq (.idx (.var 2) (.val (.int 0))) (.val (.str [111, 110])))))))) .nil), false⟩
def b_Tree_with_file : Def := ⟨("Tree", some "with_file"), ["self", "path", "lines"], [], 3, (.cons (.exp (.srk (.val .non) 0)) .nil), false⟩
def b_Tree_without : Def := ⟨("Tree", some "without"), ["self", "path"], [], 4, (.cons (.ite (.cmp .NotIn (.var 1) (.var 0)) (.cons (.rse "NoPath" (.cons (.var 1) .nil)) .nil) .nil) (.cons (.ret (.cll "tree_of" (.cons (.dc (.var 2) (.var 3) [2, 3] (.one (.tp [2, 3]) (.items (.att (.var 0) "shelf")) (.yes (.cmp .NotEq (.var 2) (.var 1))))) .nil) [] .nil)) .nil)), false⟩
def b_tree_of : Def := ⟨("tree_of", none), ["shelf"], [], 2, (.cons (.asg (.nm 1) (.cll "Tree" .nil [] .nil)) (.cons (.setA (.var 1) "shelf" (.var 0)) (.cons (.ret (.var 1)) .nil))), false⟩
def b_grown : Def := ⟨("grown", none), ["tree", "path", "lines"], [], 3, (.cons (.ret (.cll "tree_of" (.cons (.dmg (.att (.var 0) "shelf") (.var 1) (.var 2)) .nil) [] .nil)) .nil), false⟩
def b_check_start : Def := ⟨("check_start", none), ["tree", "start"], [], 2, (.cons (.ite (.cmp .NotIn (.var 1) (.var 0)) (.cons (.rse "NoPath" (.cons (.var 1) .nil)) .nil) .nil) .nil), false⟩
def b_check_host : Def := ⟨("check_host", none), ["host"], [], 1, (.cons (.ite (.not (.cll "is_word" (.cons (.var 0) .nil) [] .nil)) (.cons (.rse "NoHost" (.cons (.val (.str [97, 32, 104, 111, 115, 116, 32, 105, 115, 32, 97, 32, 119, 111, 114, 100])) .nil)) .nil) .nil) .nil), false⟩
def b_check_reading : Def := ⟨("check_reading", none), ["tree", "start", "host"], [], 3, (.cons (.exp (.cll "check_start" (.cons (.var 0) (.cons (.var 1) .nil)) [] .nil)) (.cons (.exp (.cll "check_host" (.cons (.var 2) .nil) [] .nil)) .nil)), false⟩
def b_Reader___init__ : Def := ⟨("Reader", some "__init__"), ["self", "tree", "host", "extra"], [], 4, (.cons (.setA (.var 0) "source" (.var 1)) (.cons (.setA (.var 0) "host" (.var 2)) (.cons (.setA (.var 0) "extra" (.var 3)) (.cons (.setA (.var 0) "known" (.blt .sorted (.cons (.lst (.star (.mth (.var 1) "paths" .nil [] .nil) (.star (.ite (.cmp .Is (.var 3) (.val .non)) (.lst .nil) (.lst (.cons (.var 3) .nil))) .nil))) .nil))) (.cons (.setA (.var 0) "active" (.cell (.lst .nil))) (.cons (.setA (.var 0) "looked" (.val (.int 0))) (.cons (.setA (.var 0) "steps" (.cell (.lst .nil))) (.cons (.setA (.var 0) "wrongs" (.cell (.lst .nil))) (.cons (.setA (.var 0) "paths_met" (.cell (.lst .nil))) (.cons (.setA (.var 0) "counts" (.cell (.lst .nil))) .nil)))))))))), true⟩
def b_Reader_read : Def := ⟨("Reader", some "read"), ["self", "path"], [], 4, (.cons (.ite (.cmp .Eq (.var 1) (.att (.var 0) "extra")) (.cons (.exp (.bm (.att (.var 0) "counts") .append (.cons (.blt .len (.cons (.att (.var 0) "steps") .nil)) .nil))) (.cons .retN .nil)) .nil) (.cons (.exp (.bm (.att (.var 0) "paths_met") .append (.cons (.var 1) .nil))) (.cons (.exp (.bm (.att (.var 0) "active") .append (.cons (.var 1) .nil))) (.cons (.for_ (.tp [2, 3]) (.enu (.mth (.att (.var 0) "source") "lines" (.cons (.var 1) .nil) [] .nil)) (.cons (.augA (.var 0) "looked" .Add (.val (.int 1))) (.cons (.ite (.cmp .Gt (.att (.var 0) "looked") (.val (.int 2000))) (.cons (.rse "TooLong" (.cons (.val (.str [109, 111, 114, 101, 32, 116, 104, 97, 110, 32, 50, 44, 48, 48, 48, 32, 108, 105, 110, 101, 115, 32, 97, 114, 101, 32, 108, 111, 111, 107, 101, 100, 32, 97, 116])) .nil)) .nil) .nil) (.cons (.ite (.or (.cmp .NotEq (.idx (.var 3) (.val (.int 0))) (.val (.str [111, 110]))) (.cmp .Eq (.idx (.var 3) (.val (.int 1))) (.att (.var 0) "host"))) (.cons (.exp (.mth (.var 0) "look" (.cons (.var 1) (.cons (.var 2) (.cons (.cll "plain" (.cons (.var 3) .nil) [] .nil) .nil))) [] .nil)) .nil) .nil) .nil)))) (.cons (.exp (.bm (.att (.var 0) "active") .pop .nil)) .nil))))), false⟩
def b_Reader_look : Def := ⟨("Reader", some "look"), ["self", "path", "index", "line"], [], 4, (.cons (.ite (.cmp .Eq (.idx (.var 3) (.val (.int 0))) (.val (.str [97, 108, 108]))) (.cons (.exp (.mth (.var 0) "read_folder" (.cons (.idx (.var 3) (.val (.int 1))) .nil) [] .nil)) .nil) (.cons (.ite (.cmp .In (.idx (.var 3) (.val (.int 0))) (.tup (.cons (.val (.str [114, 101, 97, 100])) (.cons (.val (.str [109, 97, 121])) .nil)))) (.cons (.exp (.mth (.var 0) "read_named" (.cons (.var 1) (.cons (.var 2) (.cons (.var 3) .nil))) [] .nil)) .nil) (.cons (.exp (.bm (.att (.var 0) "steps") .append (.cons (.tup (.cons (.var 1) (.cons (.var 2) (.cons (.var 3) .nil)))) .nil))) .nil)) .nil)) .nil), false⟩
def b_Reader_read_named : Def := ⟨("Reader", some "read_named"), ["self", "path", "index", "line"], [], 6, (.cons (.asg (.tp [4, 5]) (.var 3)) (.cons (.ite (.cmp .NotIn (.var 5) (.att (.var 0) "known")) (.cons (.ite (.cmp .Eq (.var 4) (.val (.str [114, 101, 97, 100]))) (.cons (.exp (.bm (.att (.var 0) "wrongs") .append (.cons (.tup (.cons (.val (.str [109, 105, 115, 115, 105, 110, 103])) (.cons (.var 1) (.cons (.var 2) (.cons (.var 5) .nil))))) .nil))) .nil) .nil) .nil) (.cons (.ite (.cmp .In (.var 5) (.att (.var 0) "active")) (.cons (.exp (.bm (.att (.var 0) "wrongs") .append (.cons (.tup (.cons (.val (.str [114, 105, 110, 103])) (.cons (.var 1) (.cons (.var 2) (.cons (.var 5) .nil))))) .nil))) .nil) (.cons (.exp (.mth (.var 0) "read" (.cons (.var 5) .nil) [] .nil)) .nil)) .nil)) .nil)), false⟩
def b_Reader_read_folder : Def := ⟨("Reader", some "read_folder"), ["self", "folder"], [], 3, (.cons (.for_ (.nm 2) (.seq (.att (.var 0) "known")) (.cons (.ite (.and (.bm (.var 2) .startswith (.cons (.bin .Add (.var 1) (.val (.str [47]))) .nil)) (.cmp .NotIn (.var 2) (.att (.var 0) "active"))) (.cons (.exp (.mth (.var 0) "read" (.cons (.var 2) .nil) [] .nil)) .nil) .nil) .nil)) .nil), false⟩
def b_reader_of : Def := ⟨("reader_of", none), ["tree", "start", "host", "extra"], [], 5, (.cons (.asg (.nm 4) (.cll "Reader" (.cons (.var 0) (.cons (.var 2) (.cons (.var 3) .nil))) [] .nil)) (.cons (.exp (.mth (.var 4) "read" (.cons (.var 1) .nil) [] .nil)) (.cons (.ret (.var 4)) .nil))), false⟩
def b_operation_of : Def := ⟨("operation_of", none), ["line"], [], 1, (.cons (.ret (.bin .Add (.slc (.var 0) .no (.yes (.val (.int 1)))) (.slc (.var 0) (.yes (.val (.int 2))) .no))) .nil), false⟩
def b_after : Def := ⟨("after", none), ["state", "line"], [], 3, (.cons (.ite (.idx (.var 0) (.val (.int 1))) (.cons (.ret (.var 0)) .nil) .nil) (.cons (.asg (.nm 2) (.cll "parts_of" (.cons (.cll "operation_of" (.cons (.var 1) .nil) [] .nil) .nil) [] .nil)) (.cons (.ret (.tup (.cons (.cll "behind" (.cons (.var 2) (.cons (.idx (.var 0) (.val (.int 0))) .nil)) [] .nil) (.cons (.idx (.var 2) (.neg (.val (.int 1)))) .nil)))) .nil))), false⟩
def b_state_of : Def := ⟨("state_of", none), ["steps", "key"], [], 6, (.cons (.asg (.nm 2) (.tup (.cons (.val .non) (.cons (.val (.bl false)) .nil)))) (.cons (.for_ (.tp [3, 4, 5]) (.seq (.var 0)) (.cons (.ite (.cmp .Eq (.idx (.var 5) (.val (.int 1))) (.var 1)) (.cons (.asg (.nm 2) (.cll "after" (.cons (.var 2) (.cons (.var 5) .nil)) [] .nil)) .nil) .nil) .nil)) (.cons (.ret (.var 2)) .nil))), false⟩
def b_worth_of : Def := ⟨("worth_of", none), ["steps", "key"], [], 2, (.cons (.ret (.idx (.cll "state_of" (.cons (.var 0) (.cons (.var 1) .nil)) [] .nil) (.val (.int 0)))) .nil), false⟩
def b_operations_of : Def := ⟨("operations_of", none), ["steps", "key"], [], 5, (.cons (.ret (.lc (.bin .Add (.slc (.var 4) .no (.yes (.val (.int 1)))) (.slc (.var 4) (.yes (.val (.int 2))) .no)) [2, 3, 4] (.one (.tp [2, 3, 4]) (.seq (.var 0)) (.yes (.cmp .Eq (.idx (.var 4) (.val (.int 1))) (.var 1)))))) .nil), false⟩
def b_all_hosts : Def := ⟨("all_hosts", none), ["trees"], [], 3, (.cons (.ret (.cll "hosts_and_one" (.cons (.lc (.var 2) [1, 2] (.more (.nm 1) (.seq (.var 0)) .no (.one (.nm 2) (.seq (.mth (.var 1) "named_hosts" .nil [] .nil)) .no))) .nil) [] .nil)) .nil), false⟩
def b_unread : Def := ⟨("unread", none), ["tree", "start"], [], 5, (.cons (.exp (.cll "check_start" (.cons (.var 0) (.cons (.var 1) .nil)) [] .nil)) (.cons (.asg (.nm 2) (.cell (.lst .nil))) (.cons (.for_ (.nm 3) (.seq (.cll "all_hosts" (.cons (.lst (.cons (.var 0) .nil)) .nil) [] .nil)) (.cons (.exp (.bm (.var 2) .extend (.cons (.att (.cll "reader_of" (.cons (.var 0) (.cons (.var 1) (.cons (.var 3) (.cons (.val .non) .nil)))) [] .nil) "paths_met") .nil))) .nil)) (.cons (.ret (.lc (.var 4) [4] (.one (.nm 4) (.seq (.mth (.var 0) "paths" .nil [] .nil)) (.yes (.cmp .NotIn (.var 4) (.var 2)))))) .nil)))), false⟩
def b_worths_of : Def := ⟨("worths_of", none), ["tree", "start", "hosts", "keys"], [], 8, (.cons (.asg (.nm 4) (.cell (.lst .nil))) (.cons (.for_ (.nm 5) (.seq (.var 2)) (.cons (.asg (.nm 6) (.att (.cll "reader_of" (.cons (.var 0) (.cons (.var 1) (.cons (.var 5) (.cons (.val .non) .nil)))) [] .nil) "steps")) (.cons (.exp (.bm (.var 4) .append (.cons (.lc (.cll "worth_of" (.cons (.var 6) (.cons (.var 7) .nil)) [] .nil) [7] (.one (.nm 7) (.seq (.var 3)) .no)) .nil))) .nil))) (.cons (.ret (.var 4)) .nil))), false⟩
def b_idle_lines : Def := ⟨("idle_lines", none), ["tree", "start"], [], 10, (.cons (.exp (.cll "check_start" (.cons (.var 0) (.cons (.var 1) .nil)) [] .nil)) (.cons (.par [5, 6] (.cons (.cll "all_hosts" (.cons (.lst (.cons (.var 0) .nil)) .nil) [] .nil) (.cons (.mth (.var 0) "named_keys" .nil [] .nil) .nil))) (.cons (.asg (.nm 2) (.cll "worths_of" (.cons (.var 0) (.cons (.var 1) (.cons (.var 5) (.cons (.var 6) .nil)))) [] .nil)) (.cons (.asg (.nm 3) (.cell (.lst .nil))) (.cons (.for_ (.nm 4) (.seq (.mth (.var 0) "paths" .nil [] .nil)) (.cons (.asg (.nm 7) (.mth (.var 0) "lines" (.cons (.var 4) .nil) [] .nil)) (.cons (.for_ (.nm 8) (.rng1 (.blt .len (.cons (.var 7) .nil))) (.cons (.asg (.nm 9) (.cll "grown" (.cons (.var 0) (.cons (.var 4) (.cons (.bin .Add (.slc (.var 7) .no (.yes (.var 8))) (.slc (.var 7) (.yes (.bin .Add (.var 8) (.val (.int 1)))) .no)) .nil))) [] .nil)) (.cons (.ite (.cmp .Eq (.cll "worths_of" (.cons (.var 9) (.cons (.var 1) (.cons (.var 5) (.cons (.var 6) .nil)))) [] .nil) (.var 2)) (.cons (.exp (.bm (.var 3) .append (.cons (.tup (.cons (.var 4) (.cons (.var 8) .nil))) .nil))) .nil) .nil) .nil))) .nil))) (.cons (.ret (.var 3)) .nil)))))), false⟩
def b_idle_files : Def := ⟨("idle_files", none), ["tree", "start"], [], 7, (.cons (.exp (.cll "check_start" (.cons (.var 0) (.cons (.var 1) .nil)) [] .nil)) (.cons (.asg (.tp [4, 5]) (.tup (.cons (.cll "all_hosts" (.cons (.lst (.cons (.var 0) .nil)) .nil) [] .nil) (.cons (.mth (.var 0) "named_keys" .nil [] .nil) .nil)))) (.cons (.asg (.nm 2) (.cll "worths_of" (.cons (.var 0) (.cons (.var 1) (.cons (.var 4) (.cons (.var 5) .nil)))) [] .nil)) (.cons (.asg (.nm 3) (.lc (.var 6) [6] (.one (.nm 6) (.seq (.mth (.var 0) "paths" .nil [] .nil)) (.yes (.cmp .NotEq (.var 6) (.var 1)))))) (.cons (.ret (.lc (.var 6) [6] (.one (.nm 6) (.seq (.var 3)) (.yes (.cmp .Eq (.cll "worths_of" (.cons (.mth (.var 0) "without" (.cons (.var 6) .nil) [] .nil) (.cons (.var 1) (.cons (.var 4) (.cons (.var 5) .nil)))) [] .nil) (.var 2)))))) .nil))))), false⟩
def b_check_starts : Def := ⟨("check_starts", none), ["tree", "other", "start"], [], 3, (.cons (.ite (.or (.cmp .NotIn (.var 2) (.var 0)) (.cmp .NotIn (.var 2) (.var 1))) (.cons (.rse "NoPath" (.cons (.var 2) .nil)) .nil) .nil) .nil), false⟩
def b_told_apart : Def := ⟨("told_apart", none), ["tree", "other", "start"], [], 14, (.cons (.exp (.cll "check_starts" (.cons (.var 0) (.cons (.var 1) (.cons (.var 2) .nil))) [] .nil)) (.cons (.par [4, 5] (.cons (.sst (.lst (.star (.mth (.var 0) "named_keys" .nil [] .nil) (.star (.mth (.var 1) "named_keys" .nil [] .nil) .nil)))) (.cons (.cll "all_hosts" (.cons (.lst (.cons (.var 0) (.cons (.var 1) .nil))) .nil) [] .nil) .nil))) (.cons (.par [6, 7] (.cons (.cll "worths_of" (.cons (.var 0) (.cons (.var 2) (.cons (.var 5) (.cons (.var 4) .nil)))) [] .nil) (.cons (.cll "worths_of" (.cons (.var 1) (.cons (.var 2) (.cons (.var 5) (.cons (.var 4) .nil)))) [] .nil) .nil))) (.cons (.asg (.nm 3) (.cell (.lst .nil))) (.cons (.for_ (.tp [8, 9, 10]) (.zip3 (.var 5) (.var 6) (.var 7)) (.cons (.exp (.bm (.var 3) .extend (.cons (.lc (.tup (.cons (.var 8) (.cons (.var 11) .nil))) [11, 12, 13] (.one (.tp [11, 12, 13]) (.zip3 (.var 4) (.var 9) (.var 10)) (.yes (.cmp .NotEq (.var 12) (.var 13))))) .nil))) .nil)) (.cons (.ret (.ite (.cmp .NotEq (.var 3) (.lst .nil)) (.idx (.var 3) (.val (.int 0))) (.val .non))) .nil)))))), false⟩
def b_lines_read : Def := ⟨("lines_read", none), ["tree", "start", "host"], [], 6, (.cons (.ret (.lc (.var 5) [3, 4, 5] (.one (.tp [3, 4, 5]) (.seq (.att (.cll "reader_of" (.cons (.var 0) (.cons (.var 1) (.cons (.var 2) (.cons (.val .non) .nil)))) [] .nil) "steps")) .no))) .nil), false⟩
def b_same_readings : Def := ⟨("same_readings", none), ["tree", "other", "start"], [], 7, (.cons (.exp (.cll "check_starts" (.cons (.var 0) (.cons (.var 1) (.cons (.var 2) .nil))) [] .nil)) (.cons (.asg (.nm 3) (.cll "all_hosts" (.cons (.lst (.cons (.var 0) (.cons (.var 1) .nil))) .nil) [] .nil)) (.cons (.asg (.nm 4) (.lc (.lc (.cll "lines_read" (.cons (.var 5) (.cons (.var 2) (.cons (.var 6) .nil))) [] .nil) [6] (.one (.nm 6) (.seq (.var 3)) .no)) [5] (.one (.nm 5) (.seq (.tup (.cons (.var 0) (.cons (.var 1) .nil)))) .no))) (.cons (.ret (.cmp .Eq (.idx (.var 4) (.val (.int 0))) (.idx (.var 4) (.val (.int 1))))) .nil)))), false⟩
def b_merged : Def := ⟨("merged", none), ["tree", "start", "host"], [], 8, (.cons (.exp (.cll "check_reading" (.cons (.var 0) (.cons (.var 1) (.cons (.var 2) .nil))) [] .nil)) (.cons (.asg (.nm 3) (.att (.cll "reader_of" (.cons (.var 0) (.cons (.var 1) (.cons (.var 2) (.cons (.val .non) .nil)))) [] .nil) "steps")) (.cons (.asg (.nm 4) (.cell (.lst .nil))) (.cons (.for_ (.nm 5) (.seq (.mth (.var 0) "named_keys" .nil [] .nil)) (.cons (.asg (.nm 6) (.cll "fewest_for" (.cons (.cll "parts_of_all" (.cons (.cll "operations_of" (.cons (.var 3) (.cons (.var 5) .nil)) [] .nil) .nil) [] .nil) .nil) [] .nil)) (.cons (.exp (.bm (.var 4) .extend (.cons (.lc (.tup (.cons (.idx (.var 7) (.val (.int 0))) (.cons (.var 5) (.star (.slc (.var 7) (.yes (.val (.int 1))) .no) .nil)))) [7] (.one (.nm 7) (.seq (.var 6)) .no)) .nil))) .nil))) (.cons (.ret (.blt .tuple (.cons (.var 4) .nil))) .nil))))), false⟩
def b__law_pot : Def := ⟨("_law_pot", none), ["_law_script", "_law_k"], [], 3, (.cons (.asg (.nm 2) (.val (.int 0))) (.cons (.ite (.cmp .Lt (.var 1) (.blt .len (.cons (.var 0) .nil))) (.cons (.asg (.nm 2) (.blt .abs (.cons (.blt .int (.cons (.idx (.var 0) (.var 1)) .nil)) .nil))) .nil) .nil) (.cons (.ret (.cell (.lst (.cons (.blt .max (.cons (.val (.int 0)) (.cons (.bin .Sub (.var 2) (.bin .Pow (.val (.int 10)) (.val (.int 18)))) .nil))) (.cons (.bin .Add (.bin .Mod (.blt .int (.cons (.var 2) .nil)) (.bin .Add (.bin .Pow (.val (.int 10)) (.val (.int 33))) (.val (.int 33)))) (.bin .Mult (.val (.int 524309)) (.var 1))) (.cons (.val (.int 0)) .nil)))))) .nil))), true⟩
def b__law_dip : Def := ⟨("_law_dip", none), ["_law_pot_here", "_law_many"], [], 4, (.cons (.ite (.cmp .Gt (.idx (.var 0) (.val (.int 0))) (.val (.int 0))) (.cons (.asg (.nm 3) (.bin .Mod (.blt .int (.cons (.idx (.var 0) (.val (.int 0))) .nil)) (.var 1))) (.cons (.setI (.var 0) (.val (.int 0)) (.bin .FloorDiv (.idx (.var 0) (.val (.int 0))) (.var 1))) (.cons (.ret (.var 3)) .nil))) .nil) (.cons (.setI (.var 0) (.val (.int 2)) (.bin .Add (.idx (.var 0) (.val (.int 2))) (.val (.int 1)))) (.cons (.asg (.nm 2) (.bin .Mod (.blt .int (.cons (.bin .Pow (.bin .Add (.idx (.var 0) (.val (.int 1))) (.bin .Mult (.val (.int 86028121)) (.idx (.var 0) (.val (.int 2))))) (.val (.int 3))) .nil)) (.bin .Add (.bin .Pow (.val (.int 10)) (.val (.int 41))) (.val (.int 9))))) (.cons (.asg (.nm 2) (.bin .Mod (.blt .int (.cons (.bin .Pow (.bin .Add (.var 2) (.bin .Mult (.val (.int 179424673)) (.idx (.var 0) (.val (.int 2))))) (.val (.int 3))) .nil)) (.bin .Add (.bin .Pow (.val (.int 10)) (.val (.int 39))) (.val (.int 57))))) (.cons (.ret (.bin .Mod (.blt .int (.cons (.bin .FloorDiv (.var 2) (.bin .Pow (.val (.int 10)) (.val (.int 7)))) .nil)) (.var 1))) .nil))))), false⟩
def b__law_call : Def := ⟨("_law_call", none), ["_law_way", "_law_trunk", "_law_near_one", "_law_begin", "_law_box"], [], 5, (.cons (.ite (.cmp .Lt (.var 0) (.val (.int 3))) (.cons (.ret (.clv (.idx (.lst (.cons (.val (.glo "unread")) (.cons (.val (.glo "idle_lines")) (.cons (.val (.glo "idle_files")) .nil)))) (.var 0)) (.cons (.var 1) (.cons (.var 3) .nil)))) .nil) .nil) (.cons (.ite (.cmp .Lt (.var 0) (.val (.int 5))) (.cons (.ret (.clv (.idx (.lst (.cons (.val (.glo "told_apart")) (.cons (.val (.glo "same_readings")) .nil))) (.bin .Sub (.var 0) (.val (.int 3)))) (.cons (.var 1) (.cons (.var 2) (.cons (.var 3) .nil))))) .nil) .nil) (.cons (.ret (.cll "merged" (.cons (.var 1) (.cons (.var 3) (.cons (.var 4) .nil))) [] .nil)) .nil))), false⟩
def b__law_told : Def := ⟨("_law_told", none), ["_law_way", "_law_trunk", "_law_near_one", "_law_begin", "_law_box"], [], 8, (.cons (.asg (.nm 5) (.val (.str []))) (.cons (.try_ (.cons (.exp (.cll "_law_call" (.cons (.var 0) (.cons (.var 1) (.cons (.var 2) (.cons (.var 3) (.cons (.var 4) .nil))))) [] .nil)) .nil) (.cons "NoPath" (some 6) (.cons (.asg (.nm 7) (.and (.isx (.var 6) [(.cls "FileError")]) (.not (.isx (.var 6) [(.cls "NoHost")])))) (.cons (.asg (.nm 5) (.ite (.and (.var 7) (.cmp .Eq (.blt .repr (.cons (.xat (.var 6) "path") .nil)) (.blt .repr (.cons (.var 3) .nil)))) (.val (.str [112, 97, 116, 104])) (.val (.str [63])))) .nil)) (.cons "NoHost" (some 6) (.cons (.asg (.nm 5) (.ite (.and (.isx (.var 6) [(.cls "FileError")]) (.not (.isx (.var 6) [(.cls "NoPath")]))) (.val (.str [104, 111, 115, 116])) (.val (.str [63])))) .nil) .nil))) (.cons (.ret (.var 5)) .nil))), false⟩
def b__law_right : Def := ⟨("_law_right", none), ["_law_pot_here"], [], 9, (.cons (.asg (.nm 1) (.idx (.lst (.cons (.val (.str [97])) (.cons (.val (.str [98, 99, 100])) (.cons (.val (.str [122, 122])) .nil)))) (.cll "_law_dip" (.cons (.var 0) (.cons (.val (.int 3)) .nil)) [] .nil))) (.cons (.asg (.nm 2) (.cll "Tree" (.cons (.tup (.cons (.tup (.cons (.val (.str [115, 47, 109, 97, 105, 110])) (.cons (.tup (.cons (.tup (.cons (.val (.str [115, 101, 116])) (.cons (.val (.str [107])) (.cons (.var 1) .nil)))) (.cons (.tup (.cons (.val (.str [109, 97, 121])) (.cons (.val (.str [100, 47, 98])) .nil))) .nil))) .nil))) (.cons (.tup (.cons (.val (.str [100, 47, 99])) (.cons (.tup .nil) .nil))) .nil))) .nil) [] .nil)) (.cons (.asg (.nm 3) (.cll "Tree" (.cons (.tup (.cons (.tup (.cons (.val (.str [115, 47, 109, 97, 105, 110])) (.cons (.tup (.cons (.tup (.cons (.val (.str [115, 101, 116])) (.cons (.val (.str [107])) (.cons (.val (.str [98])) .nil)))) .nil)) .nil))) (.cons (.tup (.cons (.val (.str [100, 47, 101])) (.cons (.tup .nil) .nil))) .nil))) .nil) [] .nil)) (.cons (.for_ (.nm 4) (.rng1 (.val (.int 6))) (.cons (.ite (.cmp .NotEq (.cll "_law_told" (.cons (.var 4) (.cons (.var 2) (.cons (.var 3) (.cons (.val (.str [115, 47, 109, 97, 105, 110])) (.cons (.val (.str [104])) .nil))))) [] .nil) (.val (.str []))) (.cons (.ret (.val (.bl false))) .nil) .nil) (.cons (.asg (.nm 6) (.idx (.lst (.cons (.val (.str [100, 47, 98])) (.cons (.val (.str [])) (.cons (.val .non) (.cons (.val (.int 0)) (.cons (.tup (.cons (.val (.str [115, 47, 109, 97, 105, 110])) .nil)) (.cons (.val (.str [109, 97, 105, 110])) (.cons (.val (.str [115, 47, 109, 97, 105, 110, 32])) (.cons (.lst (.cons (.val (.str [115, 47, 109, 97, 105, 110])) .nil)) (.cons (.val (.str [100, 47, 120])) .nil)))))))))) (.cll "_law_dip" (.cons (.var 0) (.cons (.val (.int 9)) .nil)) [] .nil))) (.cons (.ite (.cmp .NotEq (.cll "_law_told" (.cons (.var 4) (.cons (.var 2) (.cons (.var 3) (.cons (.var 6) (.cons (.idx (.lst (.cons (.val (.str [104])) (.cons (.val (.str [])) .nil))) (.cll "_law_dip" (.cons (.var 0) (.cons (.val (.int 2)) .nil)) [] .nil)) .nil))))) [] .nil) (.val (.str [112, 97, 116, 104]))) (.cons (.ret (.val (.bl false))) .nil) .nil) (.cons (.asg (.nm 7) (.idx (.lst (.cons (.val (.str [100, 47, 99])) (.cons (.val (.str [100, 47, 101])) .nil))) (.cll "_law_dip" (.cons (.var 0) (.cons (.val (.int 2)) .nil)) [] .nil))) (.cons (.asg (.nm 8) (.ite (.or (.cmp .In (.var 4) (.tup (.cons (.val (.int 3)) (.cons (.val (.int 4)) .nil)))) (.cmp .Eq (.var 7) (.val (.str [100, 47, 101])))) (.val (.str [112, 97, 116, 104])) (.val (.str [])))) (.cons (.ite (.cmp .NotEq (.cll "_law_told" (.cons (.var 4) (.cons (.var 2) (.cons (.var 3) (.cons (.var 7) (.cons (.val (.str [104])) .nil))))) [] .nil) (.var 8)) (.cons (.ret (.val (.bl false))) .nil) .nil) .nil))))))) (.cons (.asg (.nm 5) (.idx (.lst (.cons (.val (.str [])) (.cons (.val .non) (.cons (.val (.str [72])) (.cons (.val (.int 0)) (.cons (.val (.bl true)) (.cons (.tup (.cons (.val (.str [104])) .nil)) (.cons (.val (.str [104, 49])) (.cons (.lst (.cons (.val (.str [104])) .nil)) .nil))))))))) (.cll "_law_dip" (.cons (.var 0) (.cons (.val (.int 8)) .nil)) [] .nil))) (.cons (.ite (.cmp .NotEq (.cll "_law_told" (.cons (.val (.int 5)) (.cons (.var 2) (.cons (.var 3) (.cons (.val (.str [115, 47, 109, 97, 105, 110])) (.cons (.var 5) .nil))))) [] .nil) (.val (.str [104, 111, 115, 116]))) (.cons (.ret (.val (.bl false))) .nil) .nil) (.cons (.ret (.cmp .Eq (.cll "told_apart" (.cons (.var 2) (.cons (.var 3) (.cons (.val (.str [115, 47, 109, 97, 105, 110])) .nil))) [] .nil) (.ite (.cmp .Eq (.var 1) (.val (.str [98]))) (.val .non) (.tup (.cons (.val (.str [97])) (.cons (.val (.str [107])) .nil)))))) .nil))))))), false⟩
def b_law : Def := ⟨("law", none), ["_law_script"], [], 4, (.cons (.for_ (.nm 1) (.rng1 (.blt .max (.cons (.val (.int 1)) (.cons (.blt .min (.cons (.val (.int 4)) (.cons (.blt .len (.cons (.var 0) .nil)) .nil))) .nil)))) (.cons (.asg (.nm 2) (.cll "_law_pot" (.cons (.var 0) (.cons (.var 1) .nil)) [] .nil)) (.cons (.for_ (.nm 3) (.rng1 (.val (.int 2))) (.cons (.ite (.not (.cll "_law_right" (.cons (.var 2) .nil) [] .nil)) (.cons (.ret (.val (.bl false))) .nil) .nil) .nil)) .nil))) (.cons (.ret (.val (.bl true))) .nil)), false⟩
def defs0_0 : List (Str × Def) := [("is_word", b_is_word), ("is_value", b_is_value), ("is_path", b_is_path), ("is_operation", b_is_operation), ("is_setting", b_is_setting), ("is_reading", b_is_reading), ("is_line", b_is_line), ("next_word", b_next_word), ("least_word_without", b_least_word_without), ("hosts_and_one", b_hosts_and_one)]
def defs0_1 : List (Str × Def) := [("parts_of", b_parts_of), ("behind", b_behind), ("followed", b_followed), ("parts_of_all", b_parts_of_all), ("fewest_for", b_fewest_for), ("fewest_for_all", b_fewest_for_all), ("fewest_for_some", b_fewest_for_some), ("check_lines", b_check_lines), ("is_file", b_is_file), ("checked", b_checked)]
def defs0_2 : List (Str × Def) := [("plain", b_plain), ("keys_of", b_keys_of), ("Tree.__init__", b_Tree___init__), ("Tree.__contains__", b_Tree___contains__), ("Tree.paths", b_Tree_paths), ("Tree.lines", b_Tree_lines), ("Tree.named_keys", b_Tree_named_keys), ("Tree.named_hosts", b_Tree_named_hosts), ("Tree.with_file", b_Tree_with_file), ("Tree.without", b_Tree_without)]
def defs0_3 : List (Str × Def) := [("tree_of", b_tree_of), ("grown", b_grown), ("check_start", b_check_start), ("check_host", b_check_host), ("check_reading", b_check_reading), ("Reader.__init__", b_Reader___init__), ("Reader.read", b_Reader_read), ("Reader.look", b_Reader_look), ("Reader.read_named", b_Reader_read_named), ("Reader.read_folder", b_Reader_read_folder)]
def defs0_4 : List (Str × Def) := [("reader_of", b_reader_of), ("operation_of", b_operation_of), ("after", b_after), ("state_of", b_state_of), ("worth_of", b_worth_of), ("operations_of", b_operations_of), ("all_hosts", b_all_hosts), ("unread", b_unread), ("worths_of", b_worths_of), ("idle_lines", b_idle_lines)]
def defs0_5 : List (Str × Def) := [("idle_files", b_idle_files), ("check_starts", b_check_starts), ("told_apart", b_told_apart), ("lines_read", b_lines_read), ("same_readings", b_same_readings), ("merged", b_merged), ("_law_pot", b__law_pot), ("_law_dip", b__law_dip), ("_law_call", b__law_call), ("_law_told", b__law_told)]
def defs0_6 : List (Str × Def) := [("_law_right", b__law_right), ("law", b_law)]
def defs0 : List (Str × Def) := defs0_0 ++ defs0_1 ++ defs0_2 ++ defs0_3 ++ defs0_4 ++ defs0_5 ++ defs0_6
def G0 : Gl := ⟨[], defs0, prg.G.clss, prg.G.excs⟩
theorem G_eq : prg.G = G0 := by kernel_rfl
def nv (x : List Nat) : Val := .str x
def tr0 (cl : CallF) (w : List Nat) : EV.R Val := evE G0 cl 0 (match b__law_right.body with
  | .cons _ (.cons (.asg _ e) _) => e
  | _ => .val .non) [none, some (.str w), none, none, none, none, none, none, none] []
end PX
namespace PX
open PySem EV
def pot (x y z : Int) : Ob := .lst [.int x, .int y, .int z]
theorem look_dip : G0.defs.lookup ("_law_dip" : Str) = some b__law_dip := by kernel_rfl
section
variable {cs : Cells} {a : Nat} {x y z : Int}
theorem ix0 (h : cs[a]? = some (pot x y z)) : opIdx cs (.ref a) (.int 0) = some (.int x) := by
  simp [opIdx, dctOf, seqOf, lstOf, h, pot]
  rfl
theorem ix1 (h : cs[a]? = some (pot x y z)) : opIdx cs (.ref a) (.int 1) = some (.int y) := by
  simp [opIdx, dctOf, seqOf, lstOf, h, pot]
  rfl
theorem ix2 (h : cs[a]? = some (pot x y z)) : opIdx cs (.ref a) (.int 2) = some (.int z) := by
  simp [opIdx, dctOf, seqOf, lstOf, h, pot]
  rfl
theorem st0 {base : Nat} {v : Int} (h : cs[a]? = some (pot x y z)) : setIx base cs (.ref a) (.int 0) (.int v) = .ok .non (cs.set a (pot v y z)) := by
  simp [setIx, h, pot, ixOf, put, Val.pure, R.iff]
theorem st2 {base : Nat} {v : Int} (h : cs[a]? = some (pot x y z)) : setIx base cs (.ref a) (.int 2) (.int v) = .ok .non (cs.set a (pot x y v)) := by
  simp [setIx, h, pot, ixOf, put, Val.pure, R.iff]
theorem lt_cs (h : cs[a]? = some (pot x y z)) : a < cs.length := by
  rcases Nat.lt_or_ge a cs.length with l | l
  · exact l
  · rw [List.getElem?_eq_none l] at h
    cases h
theorem get_set (h : cs[a]? = some (pot x y z)) (o : Ob) : (cs.set a o)[a]? = some o := by
  rw [List.getElem?_set_self (lt_cs h)]
theorem take_set (b : Nat) (o : Ob) (h : b = cs.length) : (cs.set a o).take b = cs.set a o := by
  rw [List.take_of_length_le]
  rw [List.length_set, h]
  exact Nat.le_refl _
theorem frz_int (b : Nat) (i : Int) : frz b cs frzN (.int i) = some (.int i) := rfl
/-- a drawn number -/
theorem dip {n base : Nat} {m : Int} (h : cs[a]? = some (pot x y z)) (hm : 0 < m) (hm2 : m < 1000) (hy : 0 ≤ y) (hy2 : y < 2 ^ 200) (hz : 0 ≤ z) (hz2 : z < 2 ^ 60) :
    ∃ v x' z', 0 ≤ v ∧ v < m ∧ 0 ≤ z' ∧ z' ≤ z + 1 ∧ callN G0 (n + 1) "_law_dip" [.ref a, .int m] base cs = .ok (.int v) (cs.set a (pot x' y z')) := by
  have hl := lt_cs h
  by_cases hx : 0 < x
  · refine ⟨x % m, x / m, z, Int.emod_nonneg _ (by omega), Int.emod_lt_of_pos _ hm, hz, by omega, ?_⟩
    have hb : bits m < 9000 := by
      unfold bits
      have : m.natAbs.log2 ≤ m.natAbs := Nat.log2_le_self _
      omega
    unfold callN
    rw [look_dip]
    simp [runD, b__law_dip, evSs, evS, evE, evEs, getS, R.bind, R.of, SR.ofR, SR.ofO, ix0 h, st0 h, cmpV, opCmp, hx, EV.truthy, bltC, lenOf, bltV, opBin, setT, hm, hb, frz_int, take_set]
  · have hp : ∀ (cs : Cells) (k : Nat), k < 60 → opBin cs .Pow (.int 10) (.int k) = some (.int (10 ^ k)) := fun cs k hk => by
      unfold opBin
      have h1 : (0 : Int) ≤ k ∧ (k : Int) ≤ 100 ∧ bits 10 < 10000 := ⟨by omega, by omega, by decide⟩
      simp only [if_pos h1, Int.toNat_natCast]
    have hp41 : ∀ cs, opBin cs .Pow (.int 10) (.int 41) = some (.int 100000000000000000000000000000000000000000) := fun cs => hp cs 41 (by omega)
    have hp39 : ∀ cs, opBin cs .Pow (.int 10) (.int 39) = some (.int 1000000000000000000000000000000000000000) := fun cs => hp cs 39 (by omega)
    have hp7 : ∀ cs, opBin cs .Pow (.int 10) (.int 7) = some (.int 10000000) := fun cs => hp cs 7 (by omega)
    have h2 := get_set h (pot x y (z + 1))
    have bl : ∀ (A : Int), 0 ≤ A → A < 2 ^ 300 → bits A < 300 := fun A h0 h1 => by
      unfold bits
      have e : A.natAbs < 2 ^ 300 := by omega
      by_cases hz : A.natAbs = 0
      · rw [hz]
        decide
      · exact (Nat.log2_lt hz).mpr e
    have mu : ∀ (i : Int), 0 ≤ i → i < 2 ^ 300 → opMul (.int i) (.int (z + 1)) = some (.int (i * (z + 1))) := fun i h0 h1 => by
      have b1 := bl i h0 h1
      have b2 := bl (z + 1) (by omega) (by omega)
      unfold opMul
      simp only
      rw [if_pos (by omega)]
    have mu1 : ∀ cs, opBin cs .Mult (.int 86028121) (.int (z + 1)) = some (.int (86028121 * (z + 1))) := fun cs => mu _ (by omega) (by omega)
    have mu2 : ∀ cs, opBin cs .Mult (.int 179424673) (.int (z + 1)) = some (.int (179424673 * (z + 1))) := fun cs => mu _ (by omega) (by omega)
    generalize hA : y + 86028121 * (z + 1) = A
    have hA0 : 0 ≤ A := by omega
    have hA1 : A < 2 ^ 300 := by omega
    have cube : ∀ (cs : Cells) (A : Int), 0 ≤ A → A < 2 ^ 300 → opBin cs .Pow (.int A) (.int 3) = some (.int (A ^ 3)) := fun cs A h0 h1 => by
      have hb := bl A h0 h1
      unfold opBin
      have h1 : (0 : Int) ≤ 3 ∧ (3 : Int) ≤ 100 ∧ bits A < 10000 := ⟨by omega, by omega, by omega⟩
      simp only [if_pos h1]
      rfl
    have c1 := fun cs => cube cs A hA0 hA1
    generalize hB : A ^ 3 % 100000000000000000000000000000000000000009 + 179424673 * (z + 1) = B
    have hB0 : 0 ≤ B := by
      have := Int.emod_nonneg (A ^ 3) (b := 100000000000000000000000000000000000000009) (by omega)
      omega
    have hB1 : B < 2 ^ 300 := by
      have := Int.emod_lt_of_pos (A ^ 3) (b := 100000000000000000000000000000000000000009) (by omega)
      omega
    have c2 := fun cs => cube cs B hB0 hB1
    have d7 : bits 10000000 < 9000 := by decide
    refine ⟨B ^ 3 % 1000000000000000000000000000000000000057 / 10000000 % m, x, z + 1, Int.emod_nonneg _ (by omega), Int.emod_lt_of_pos _ hm, by omega, by omega, ?_⟩
    unfold callN
    rw [look_dip]
    have m1 : ∀ (cs : Cells) (i : Int), opBin cs .Mod (.int i) (.int 100000000000000000000000000000000000000009) = some (.int (i % 100000000000000000000000000000000000000009)) := fun cs i => by
      unfold opBin
      simp only
      rw [if_pos (by omega)]
    have m2 : ∀ (cs : Cells) (i : Int), opBin cs .Mod (.int i) (.int 1000000000000000000000000000000000000057) = some (.int (i % 1000000000000000000000000000000000000057)) := fun cs i => by
      unfold opBin
      simp only
      rw [if_pos (by omega)]
    have m3 : ∀ (cs : Cells) (i : Int), opBin cs .Mod (.int i) (.int m) = some (.int (i % m)) := fun cs i => by
      unfold opBin
      simp only
      rw [if_pos hm]
    have f1 : ∀ (cs : Cells) (i : Int), opBin cs .FloorDiv (.int i) (.int 10000000) = some (.int (i / 10000000)) := fun cs i => by
      unfold opBin
      simp only
      rw [if_pos ⟨by omega, d7⟩]
    have ad : ∀ (cs : Cells) (i j : Int), opBin cs .Add (.int i) (.int j) = some (.int (i + j)) := fun cs i j => rfl
    simp [runD, b__law_dip, evSs, evS, evE, evEs, getS, R.bind, R.of, SR.ofR, SR.ofO, ix0 h, ix1 h2, ix2 h, ix2 h2, st2 h, cmpV, opCmp, hx, EV.truthy, bltC, lenOf, bltV, setT, frz_int, take_set, hp41, hp39, hp7, mu1, mu2, hA, c1, m1, hB, c2, m2, m3, f1, ad]
end
end PX
namespace PX
open PySem EV
def cd (s : String) : List Nat := s.toList.map Char.toNat
def sMain : Val := .str [115, 47, 109, 97, 105, 110]
def sPath : Val := .str [112, 97, 116, 104]
def odds : List Val := [.str [100, 47, 98], .str [], .non, .int 0, .tup [.str [115, 47, 109, 97, 105, 110]], .str [109, 97, 105, 110], .str [115, 47, 109, 97, 105, 110, 32], .lst [.str [115, 47, 109, 97, 105, 110]], .str [100, 47, 120]]
def halves : List Val := [.str [100, 47, 99], .str [100, 47, 101]]
def stranges : List Val := [.str [], .non, .str [72], .int 0, .bl true, .tup [.str [104]], .str [104, 49], .lst [.str [104]]]
def shelfT (w : List Nat) : Val := .dct [(.str [115, 47, 109, 97, 105, 110], .tup [.tup [.str [115, 101, 116], .str [107], .str w], .tup [.str [109, 97, 121], .str [100, 47, 98]]]), (.str [100, 47, 99], .tup [])]
def shelfN : Val := .dct [(.str [115, 47, 109, 97, 105, 110], .tup [.tup [.str [115, 101, 116], .str [107], .str [98]]]), (.str [100, 47, 101], .tup [])]
def obT (w : List Nat) : Ob := .ins "Tree" [("shelf", shelfT w)]
def obN : Ob := .ins "Tree" [("shelf", shelfN)]
def filT (w : List Nat) : Val := .tup [.tup [.str [115, 47, 109, 97, 105, 110], .tup [.tup [.str [115, 101, 116], .str [107], .str w], .tup [.str [109, 97, 121], .str [100, 47, 98]]]], .tup [.str [100, 47, 99], .tup []]]
def filN : Val := .tup [.tup [.str [115, 47, 109, 97, 105, 110], .tup [.tup [.str [115, 101, 116], .str [107], .str [98]]]], .tup [.str [100, 47, 101], .tup []]]
/-- what is asked, here -/
def told (a : Nat) (way : Int) (u bx : Val) (cs : Cells) : EV.R Val := callN G0 38 "_law_told" [.int way, .ref (a + 1), .ref (a + 2), u, bx] (a + 1) cs
structure F (a : Nat) (y : Int) (w : List Nat) (cs0 M C : Int → Int → Cells) : Prop where
  at0 : ∀ x z, (cs0 x z)[a]? = some (pot x y z)
  len : ∀ x z, (cs0 x z).length = a + 1
  set0 : ∀ x z x' z', (cs0 x z).set a (pot x' y z') = cs0 x' z'
  at_ : ∀ x z, (C x z)[a]? = some (pot x y z)
  set : ∀ x z x' z', (C x z).set a (pot x' y z') = C x' z'
  take : ∀ x z, (C x z).take (a + 1) = cs0 x z
  t1 : ∀ x z, callG G0 (callN G0 38) (a + 1) "Tree" [filT w] [] [] (cs0 x z) = .ok (.ref (a + 1)) (M x z)
  t2 : ∀ x z, callG G0 (callN G0 38) (a + 1) "Tree" [filN] [] [] (M x z) = .ok (.ref (a + 2)) (C x z)
  main : ∀ x z (way : Int), 0 ≤ way → way < 6 → told a way sMain (.str [104]) (C x z) = .ok (.str []) (C x z)
  odd : ∀ x z (way v : Int) bx, 0 ≤ way → way < 6 → 0 ≤ v → v < 9 → ∃ u, atOf odds v = some u ∧ told a way u (.str bx) (C x z) = .ok sPath (C x z)
  half : ∀ x z (way v : Int), 0 ≤ way → way < 6 → 0 ≤ v → v < 2 → (way = 3 ∨ way = 4) ∨ v = 1 → ∃ u, atOf halves v = some u ∧ told a way u (.str [104]) (C x z) = .ok sPath (C x z)
  halfC : ∀ x z (way : Int), 0 ≤ way → way < 6 → ¬ (way = 3 ∨ way = 4) → told a way (.str [100, 47, 99]) (.str [104]) (C x z) = .ok (.str []) (C x z)
  strange : ∀ x z (v : Int), 0 ≤ v → v < 8 → ∃ u, atOf stranges v = some u ∧ told a 5 sMain u (C x z) = .ok (.str [104, 111, 115, 116]) (C x z)
  fin : ∀ x z, callN G0 38 "told_apart" [.ref (a + 1), .ref (a + 2), sMain] (a + 1) (C x z) = .ok (.tup [.str [97], .str [107]]) (C x z)
  wd : w = [97] ∨ w = [98, 99, 100] ∨ w = [122, 122]
theorem cg_told (cl : CallF) (b : Nat) (v1 v2 v3 v4 v5 : Val) (cs : Cells) : callG G0 cl b ("_law_told" : Str) [v1, v2, v3, v4, v5] [] [] cs = cl "_law_told" [v1, v2, v3, v4, v5] b cs := by kernel_rfl
theorem cg_dip (cl : CallF) (b : Nat) (v1 v2 : Val) (cs : Cells) : callG G0 cl b ("_law_dip" : Str) [v1, v2] [] [] cs = cl "_law_dip" [v1, v2] b cs := by kernel_rfl
theorem cg_ta (cl : CallF) (b : Nat) (v1 v2 v3 : Val) (cs : Cells) : callG G0 cl b ("told_apart" : Str) [v1, v2, v3] [] [] cs = cl "told_apart" [v1, v2, v3] b cs := by kernel_rfl
theorem ne_str (cl : CallF) (b : Nat) (s : List Nat) (cs : Cells) (h : s.all (Nat.blt · 1114112) = true) : cmpV G0 cl b .NotEq (.str s) (.str s) cs = .ok (.bl false) cs := by
  have e : opCmp cs .NotEq (.str s) (.str s) = some false := by
    unfold opCmp opEq
    have : topV cs (.str s) = .str s := rfl
    rw [this]
    have hd : Val.data deep (.str s) = true := h
    rw [hd]
    have : Val.eqv (.str s) (.str s) = true := by
      show (s == s) = true
      simp
    rw [this]
    rfl
  show R.of ((opCmp cs .NotEq (.str s) (.str s)).map Val.bl) cs = _
  rw [e]
  rfl
/-- the list displays -/
theorem e_odds (cl : CallF) (b : Nat) (s : LSt) (cs : Cells) : evE G0 cl b (.lst (.cons (.val (.str [100, 47, 98])) (.cons (.val (.str [])) (.cons (.val .non) (.cons (.val (.int 0)) (.cons (.tup (.cons (.val (.str [115, 47, 109, 97, 105, 110])) .nil)) (.cons (.val (.str [109, 97, 105, 110])) (.cons (.val (.str [115, 47, 109, 97, 105, 110, 32])) (.cons (.lst (.cons (.val (.str [115, 47, 109, 97, 105, 110])) .nil)) (.cons (.val (.str [100, 47, 120])) .nil)))))))))) s cs = .ok (.lst odds) cs := by kernel_rfl
theorem e_halves (cl : CallF) (b : Nat) (s : LSt) (cs : Cells) : evE G0 cl b (.lst (.cons (.val (.str [100, 47, 99])) (.cons (.val (.str [100, 47, 101])) .nil))) s cs = .ok (.lst halves) cs := by kernel_rfl
theorem e_box (cl : CallF) (b : Nat) (s : LSt) (cs : Cells) : evE G0 cl b (.lst (.cons (.val (.str [104])) (.cons (.val (.str [])) .nil))) s cs = .ok (.lst [.str [104], .str []]) cs := by kernel_rfl
theorem ix_l (cs : Cells) (xs : List Val) (i : Int) : opIdx cs (.lst xs) (.int i) = atOf xs i := rfl
theorem box_at {v : Int} (h : 0 ≤ v) (h2 : v < 2) : ∃ bx, atOf [Val.str [104], Val.str []] v = some (.str bx) := by
  obtain rfl | rfl : v = 0 ∨ v = 1 := by omega
  · exact ⟨_, rfl⟩
  · exact ⟨_, rfl⟩
theorem e_due (cl : CallF) (b : Nat) (s : LSt) (cs : Cells) (way : Int) (u : List Nat) (h4 : getS s 4 = some (.int way)) (h7 : getS s 7 = some (.str u)) (d : Val) (hd : (way = 3 ∨ way = 4) ∧ d = sPath ∨ u = [100, 47, 101] ∧ d = sPath ∨ ¬ (way = 3 ∨ way = 4) ∧ u = [100, 47, 99] ∧ d = .str []) :
    evE G0 cl b (.ite (.or (.cmp .In (.var 4) (.tup (.cons (.val (.int 3)) (.cons (.val (.int 4)) .nil)))) (.cmp .Eq (.var 7) (.val (.str [100, 47, 101])))) (.val (.str [112, 97, 116, 104])) (.val (.str []))) s cs = .ok d cs := by
  have hin : opCmp cs .In (.int way) (.tup [.int 3, .int 4]) = some (decide (way = 3) || decide (way = 4)) := by
    show some (((3 : Int) == way) || (((4 : Int) == way) || false)) = _
    have e3 : ((3 : Int) == way) = decide (way = 3) := by
      by_cases h : way = 3
      · subst h; rfl
      · rw [decide_eq_false h]
        exact beq_eq_false_iff_ne.mpr fun z => h z.symm
    have e4 : ((4 : Int) == way) = decide (way = 4) := by
      by_cases h : way = 4
      · subst h; rfl
      · rw [decide_eq_false h]
        exact beq_eq_false_iff_ne.mpr fun z => h z.symm
    rw [e3, e4, Bool.or_false]
  have hE : u = [100, 47, 101] → opCmp cs .Eq (.str u) (.str [100, 47, 101]) = some true := fun e => by
    subst e
    rfl
  have hC : u = [100, 47, 99] → opCmp cs .Eq (.str u) (.str [100, 47, 101]) = some false := fun e => by
    subst e
    rfl
  rcases hd with ⟨h, rfl⟩ | ⟨h, rfl⟩ | ⟨h, hu, rfl⟩
  · have hin : opCmp cs .In (.int way) (.tup [.int 3, .int 4]) = some true := by
      rw [hin]
      rcases h with rfl | rfl <;> rfl
    simp [evE, evEs, h4, h7, R.bind, R.of, cmpV, insOf, hin, EV.truthy, EV.sizeOk, R.iff, sPath]
  · have hE := hE h
    by_cases hw : way = 3 ∨ way = 4
    · have hin : opCmp cs .In (.int way) (.tup [.int 3, .int 4]) = some true := by
        rw [hin]
        rcases hw with rfl | rfl <;> rfl
      simp [evE, evEs, h4, h7, R.bind, R.of, cmpV, insOf, hin, EV.truthy, EV.sizeOk, R.iff, sPath]
    · have hin : opCmp cs .In (.int way) (.tup [.int 3, .int 4]) = some false := by
        rw [hin]
        simpa using hw
      simp [evE, evEs, h4, h7, R.bind, R.of, cmpV, insOf, hin, hE, EV.truthy, EV.sizeOk, R.iff, sPath]
  · have hC := hC hu
    have hin : opCmp cs .In (.int way) (.tup [.int 3, .int 4]) = some false := by
      rw [hin]
      simpa using h
    simp [evE, evEs, h4, h7, R.bind, R.of, cmpV, insOf, hin, hC, EV.truthy, EV.sizeOk, R.iff, sPath]
theorem ss_cons {G : Gl} {cl : CallF} {b : Nat} {kp : Bool} {st : EV.S} {r : Ss} {s s1 : LSt} {cs cs1 : Cells} (h : evS G cl b kp st s cs = .nx s1 cs1) : evSs G cl b kp (.cons st r) s cs = evSs G cl b kp r s1 cs1 := by
  show (match evS G cl b kp st s cs with
    | .nx s cs => evSs G cl b kp r s cs
    | x => x) = _
  rw [h]
theorem ev_ix {G : Gl} {cl : CallF} {b : Nat} {o i : E} {s : LSt} {cs cs1 cs2 : Cells} {v u x : Val} (h : evE G cl b o s cs = .ok v cs1) (g : evE G cl b i s cs1 = .ok u cs2) (k : opIdx cs2 v u = some x) : evE G cl b (.idx o i) s cs = .ok x cs2 := by
  show ((evE G cl b o s cs).bind fun v cs => (evE G cl b i s cs).bind fun u cs => R.of (opIdx cs v u) cs) = _
  rw [h]
  show ((evE G cl b i s cs1).bind fun u cs => R.of (opIdx cs v u) cs) = _
  rw [g]
  show R.of (opIdx cs2 v u) cs2 = _
  rw [k]
  rfl
theorem asg_e {G : Gl} {cl : CallF} {b : Nat} {kp : Bool} {j : Nat} {e : E} {s : LSt} {cs cs1 : Cells} {v : Val} (h : evE G cl b e s cs = .ok v cs1) : evS G cl b kp (.asg (.nm j) e) s cs = .nx (s.set j (some v)) cs1 := by
  show SR.ofR (evE G cl b e s cs) s _ = _
  rw [h]
  rfl
theorem asg_ix {G : Gl} {cl : CallF} {b : Nat} {kp : Bool} {j : Nat} {o i : E} {s : LSt} {cs cs1 cs2 : Cells} {v u x : Val} (h : evE G cl b o s cs = .ok v cs1) (g : evE G cl b i s cs1 = .ok u cs2) (k : opIdx cs2 v u = some x) : evS G cl b kp (.asg (.nm j) (.idx o i)) s cs = .nx (s.set j (some x)) cs2 := asg_e (ev_ix h g k)
def bodyW : Ss := match b__law_right.body with
  | .cons _ (.cons _ (.cons _ (.cons (.for_ _ _ b) _))) => b
  | _ => .nil
section
variable {a : Nat} {y : Int} {w : List Nat} {cs0 M C : Int → Int → Cells}
/-- one turn -/
theorem turn (f : F a y w cs0 M C) (hy : 0 ≤ y) (hy2 : y < 2 ^ 200) {x z way : Int} {o6 o7 o8 : Option Val} (hz : 0 ≤ z) (hz2 : z < 2 ^ 50) (h0 : 0 ≤ way) (h6 : way < 6) :
    ∃ x' z' o6' o7' o8', 0 ≤ z' ∧ z' ≤ z + 3 ∧ evSs G0 (callN G0 38) (a + 1) false bodyW [some (.ref a), some (.str w), some (.ref (a + 1)), some (.ref (a + 2)), some (.int way), none, o6, o7, o8] (C x z) =
      .nx [some (.ref a), some (.str w), some (.ref (a + 1)), some (.ref (a + 2)), some (.int way), none, o6', o7', o8'] (C x' z') := by
  have t0 := f.main x z way h0 h6
  obtain ⟨v1, x1, z1, a1, a2, a3, a4, d1⟩ := dip (n := 37) (base := a + 1) (m := 9) (f.at_ x z) (by omega) (by omega) hy hy2 hz (by omega)
  rw [f.set] at d1
  have d1 : callN G0 38 "_law_dip" [.ref a, .int 9] (a + 1) (C x z) = .ok (.int v1) (C x1 z1) := d1
  obtain ⟨v2, x2, z2, b1, b2, b3, b4, d2⟩ := dip (n := 37) (base := a + 1) (m := 2) (f.at_ x1 z1) (by omega) (by omega) hy hy2 a3 (by omega)
  rw [f.set] at d2
  have d2 : callN G0 38 "_law_dip" [.ref a, .int 2] (a + 1) (C x1 z1) = .ok (.int v2) (C x2 z2) := d2
  obtain ⟨v3, x3, z3, c1, c2, c3, c4, d3⟩ := dip (n := 37) (base := a + 1) (m := 2) (f.at_ x2 z2) (by omega) (by omega) hy hy2 b3 (by omega)
  rw [f.set] at d3
  have d3 : callN G0 38 "_law_dip" [.ref a, .int 2] (a + 1) (C x2 z2) = .ok (.int v3) (C x3 z3) := d3
  obtain ⟨bx, ebx⟩ := box_at b1 b2
  obtain ⟨u1, eu1, t1⟩ := f.odd x2 z2 way v1 bx h0 h6 a1 a2
  have hh : ∃ u d, atOf halves v3 = some (.str u) ∧ told a way (.str u) (.str [104]) (C x3 z3) = .ok (.str d) (C x3 z3) ∧ d.all (Nat.blt · 1114112) = true ∧ ((way = 3 ∨ way = 4) ∧ Val.str d = sPath ∨ u = [100, 47, 101] ∧ Val.str d = sPath ∨ ¬ (way = 3 ∨ way = 4) ∧ u = [100, 47, 99] ∧ Val.str d = .str []) := by
    by_cases hw : (way = 3 ∨ way = 4) ∨ v3 = 1
    · obtain ⟨u, e, t⟩ := f.half x3 z3 way v3 h0 h6 c1 c2 hw
      obtain rfl | rfl : v3 = 0 ∨ v3 = 1 := by omega
      · cases e
        exact ⟨_, _, rfl, t, rfl, .inl ⟨hw.resolve_right (by omega), rfl⟩⟩
      · cases e
        exact ⟨_, _, rfl, t, rfl, .inr (.inl ⟨rfl, rfl⟩)⟩
    · have hw3 : ¬ (way = 3 ∨ way = 4) := fun z => hw (.inl z)
      obtain rfl : v3 = 0 := by
        have : v3 ≠ 1 := fun z => hw (.inr z)
        omega
      exact ⟨_, _, rfl, f.halfC x3 z3 way h0 h6 hw3, rfl, .inr (.inr ⟨hw3, rfl, rfl⟩)⟩
  obtain ⟨u3, d, eu3, t3, hd, hdue⟩ := hh
  unfold told at t0 t1 t3
  unfold sMain at t0
  unfold sPath at t1
  have du := e_due (callN G0 38) (a + 1) [some (.ref a), some (.str w), some (.ref (a + 1)), some (.ref (a + 2)), some (.int way), none, some u1, some (.str u3), o8] (C x3 z3) way u3 rfl rfl (.str d) hdue
  have n0 := ne_str (callN G0 38) (a + 1) [] (C x z) rfl
  have n1 := ne_str (callN G0 38) (a + 1) [112, 97, 116, 104] (C x2 z2) rfl
  have n3 := ne_str (callN G0 38) (a + 1) d (C x3 z3) hd
  refine ⟨x3, z3, some u1, some (.str u3), some (.str d), c3, by omega, ?_⟩
  unfold bodyW b__law_right
  simp only
  have sd : ∀ k : Nat, k < 100 → EV.sizeOk k = true := fun k hk => by
    unfold EV.sizeOk
    exact Nat.ble_eq_true_of_le (by omega)
  -- told, main
  refine (ss_cons (s1 := [some (.ref a), some (.str w), some (.ref (a + 1)), some (.ref (a + 2)), some (.int way), none, o6, o7, o8]) (cs1 := C x z) ?_).trans ?_
  · simp [evSs, evS, evE, evEs, getS, R.bind, R.of, SR.ofR, SR.ofO, EV.truthy, cg_told, t0, n0]
  refine (ss_cons (s1 := [some (.ref a), some (.str w), some (.ref (a + 1)), some (.ref (a + 2)), some (.int way), none, some u1, o7, o8]) (cs1 := C x1 z1) ?_).trans ?_
  · refine (asg_ix (e_odds _ _ _ _) (u := .int v1) (cs2 := C x1 z1) ?_ ((ix_l _ _ _).trans eu1)).trans rfl
    simp [evE, evEs, getS, R.bind, R.of, cg_dip, d1]
  refine (ss_cons (s1 := [some (.ref a), some (.str w), some (.ref (a + 1)), some (.ref (a + 2)), some (.int way), none, some u1, o7, o8]) (cs1 := C x2 z2) ?_).trans ?_
  · have e5 : evE G0 (callN G0 38) (a + 1) (.idx (.lst (.cons (.val (.str [104])) (.cons (.val (.str [])) .nil))) (.cll "_law_dip" (.cons (.var 0) (.cons (.val (.int 2)) .nil)) [] .nil)) [some (.ref a), some (.str w), some (.ref (a + 1)), some (.ref (a + 2)), some (.int way), none, some u1, o7, o8] (C x1 z1) = .ok (.str bx) (C x2 z2) := by
      refine ev_ix (e_box _ _ _ _) (u := .int v2) ?_ ((ix_l _ _ _).trans ebx)
      simp [evE, evEs, getS, R.bind, R.of, cg_dip, d2]
    generalize E.idx (.lst (.cons (.val (.str [104])) (.cons (.val (.str [])) .nil))) (.cll "_law_dip" (.cons (.var 0) (.cons (.val (.int 2)) .nil)) [] .nil) = e at e5 ⊢
    simp [evSs, evS, evE, evEs, getS, R.bind, R.of, SR.ofR, SR.ofO, EV.truthy, cg_told, e5, t1, n1]
  refine (ss_cons (s1 := [some (.ref a), some (.str w), some (.ref (a + 1)), some (.ref (a + 2)), some (.int way), none, some u1, some (.str u3), o8]) (cs1 := C x3 z3) ?_).trans ?_
  · refine (asg_ix (e_halves _ _ _ _) (u := .int v3) (cs2 := C x3 z3) ?_ ((ix_l _ _ _).trans eu3)).trans rfl
    simp [evE, evEs, getS, R.bind, R.of, cg_dip, d3]
  refine (ss_cons (s1 := [some (.ref a), some (.str w), some (.ref (a + 1)), some (.ref (a + 2)), some (.int way), none, some u1, some (.str u3), some (.str d)]) (cs1 := C x3 z3) ?_).trans ?_
  · exact asg_e du
  refine (ss_cons (s1 := [some (.ref a), some (.str w), some (.ref (a + 1)), some (.ref (a + 2)), some (.int way), none, some u1, some (.str u3), some (.str d)]) (cs1 := C x3 z3) ?_).trans rfl
  simp [evSs, evS, evE, evEs, getS, R.bind, R.of, SR.ofR, SR.ofO, EV.truthy, cg_told, t3, n3]
end
end PX
namespace PX
open PySem EV
section
variable {G : Gl} {cl : CallF} {b : Nat} {kp : Bool}
theorem ev_cll {f : Str} {es kes : Es} {ks : List Str} {s : LSt} {cs cs1 cs2 : Cells} {vs kvs : List Val} {r : EV.R Val} (h : evEs G cl b es s cs = .ok vs cs1) (g : evEs G cl b kes s cs1 = .ok kvs cs2) (k : callG G cl b f vs ks kvs cs2 = r) : evE G cl b (.cll f es ks kes) s cs = r := by
  show ((evEs G cl b es s cs).bind fun vs cs => (evEs G cl b kes s cs).bind fun kvs cs => callG G cl b f vs ks kvs cs) = _
  rw [h]
  show ((evEs G cl b kes s cs1).bind fun kvs cs => callG G cl b f vs ks kvs cs) = _
  rw [g]
  exact k
theorem rng1_nat {n : Nat} (hn : n < 1000000) : rng1Src (.int n) = some ⟨rangeV 0 n, none⟩ := by
  have h : (n : Int) < 1000000 ∧ -1000000 < (n : Int) := ⟨by omega, by omega⟩
  unfold rng1Src
  simp only [h, and_self, if_true, Int.toNat_natCast]
theorem of_rng {n : Nat} {cs : Cells} (hn : n < 1000000) : R.of (rng1Src (.int n)) cs = .ok ⟨rangeV 0 n, none⟩ cs := by
  rw [rng1_nat hn]
  rfl
theorem q1 {e : E} {s : LSt} {cs : Cells} : evI G cl b (.rng1 e) s cs = (evE G cl b e s cs).bind fun v cs => R.of (rng1Src v) cs := by
  simp only [evI]
theorem bd {α β : Type} (a : α) (cs : Cells) (k : α → Cells → EV.R β) : (EV.R.ok a cs).bind k = k a cs := rfl
theorem q4 {n : Nat} {e : E} {s : LSt} {cs cs1 : Cells} (h : evE G cl b e s cs = .ok (.int n) cs1) (hn : n < 1000000) : evI G cl b (.rng1 e) s cs = .ok ⟨rangeV 0 n, none⟩ cs1 := by
  rw [q1, h, bd, of_rng hn]
theorem q3 {j : Nat} {bd : Ss} {i : EV.It} {s : LSt} {cs : Cells} : evS G cl b kp (.for_ (.nm j) i bd) s cs = SR.ofR (evI G cl b i s cs) s (fun src cs => loopF src (fun v cs s => setT cs (.nm j) v s) (fun s cs => evSs G cl b kp bd s cs) src.xs.length 0 s cs) := by
  simp only [evS]
theorem loop_of {b : LSt → Cells → SR} {st : Val → Cells → LSt → Option LSt} {n : Nat} {s : LSt} {cs : Cells} : SR.ofR (EV.R.ok (⟨rangeV 0 n, none⟩ : Src) cs) s (fun src cs => loopF src st b src.xs.length 0 s cs) = loopF ⟨rangeV 0 n, none⟩ st b n 0 s cs := by
  have e4 : (rangeV 0 n).length = n := by simp [rangeV]
  simp only [SR.ofR, e4]
theorem for_rng {j n : Nat} {bd : Ss} {e : E} {s s' : LSt} {cs cs1 cs' : Cells} (h : evE G cl b e s cs = .ok (.int n) cs1) (hn : n < 1000000) (k : loopF ⟨rangeV 0 n, none⟩ (fun v cs s => setT cs (.nm j) v s) (fun s cs => evSs G cl b kp bd s cs) n 0 s cs1 = .nx s' cs') : evS G cl b kp (.for_ (.nm j) (.rng1 e) bd) s cs = .nx s' cs' := by
  rw [q3, q4 h hn, loop_of]
  exact k
theorem range_at {n i : Nat} (h : i < n) : (rangeV 0 n)[i]? = some (.int i) := by
  simp [rangeV, h]
theorem ret_e {e : E} {s : LSt} {cs cs1 : Cells} {v : Val} (h : evE G cl b e s cs = .ok v cs1) (hv : v.pure = true) : evS G cl b false (.ret e) s cs = .rt v (cs1.take b) := by
  show SR.ofR (evE G cl b e s cs) s _ = _
  rw [h]
  show SR.ofO (frz b cs1 frzN v) _ = _
  have : frz b cs1 frzN v = some v := by
    show (if v.pure = true then some v else _) = _
    rw [if_pos hv]
  rw [this]
  rfl
end
theorem look_right : G0.defs.lookup ("_law_right" : Str) = some b__law_right := by kernel_rfl
def words : List Val := [.str [97], .str [98, 99, 100], .str [122, 122]]
theorem e_words (cl : CallF) (b : Nat) (s : LSt) (cs : Cells) : evE G0 cl b (.lst (.cons (.val (.str [97])) (.cons (.val (.str [98, 99, 100])) (.cons (.val (.str [122, 122])) .nil)))) s cs = .ok (.lst words) cs := by kernel_rfl
theorem e_str (cl : CallF) (b : Nat) (s : LSt) (cs : Cells) : evE G0 cl b (.lst (.cons (.val (.str [])) (.cons (.val .non) (.cons (.val (.str [72])) (.cons (.val (.int 0)) (.cons (.val (.bl true)) (.cons (.tup (.cons (.val (.str [104])) .nil)) (.cons (.val (.str [104, 49])) (.cons (.lst (.cons (.val (.str [104])) .nil)) .nil))))))))) s cs = .ok (.lst stranges) cs := by kernel_rfl
theorem e_filT (cl : CallF) (b a : Nat) (w : List Nat) (cs : Cells) : evEs G0 cl b (.cons (.tup (.cons (.tup (.cons (.val (.str [115, 47, 109, 97, 105, 110])) (.cons (.tup (.cons (.tup (.cons (.val (.str [115, 101, 116])) (.cons (.val (.str [107])) (.cons (.var 1) .nil)))) (.cons (.tup (.cons (.val (.str [109, 97, 121])) (.cons (.val (.str [100, 47, 98])) .nil))) .nil))) .nil))) (.cons (.tup (.cons (.val (.str [100, 47, 99])) (.cons (.tup .nil) .nil))) .nil))) .nil) [some (.ref a), some (.str w), none, none, none, none, none, none, none] cs = .ok [filT w] cs := by kernel_rfl
theorem e_filN (cl : CallF) (b : Nat) (s : LSt) (cs : Cells) : evEs G0 cl b (.cons (.tup (.cons (.tup (.cons (.val (.str [115, 47, 109, 97, 105, 110])) (.cons (.tup (.cons (.tup (.cons (.val (.str [115, 101, 116])) (.cons (.val (.str [107])) (.cons (.val (.str [98])) .nil)))) .nil)) .nil))) (.cons (.tup (.cons (.val (.str [100, 47, 101])) (.cons (.tup .nil) .nil))) .nil))) .nil) s cs = .ok [filN] cs := by kernel_rfl
theorem word_at {v : Int} (h : 0 ≤ v) (h2 : v < 3) : ∃ w, atOf words v = some (.str w) ∧ (w = [97] ∨ w = [98, 99, 100] ∨ w = [122, 122]) := by
  obtain rfl | rfl | rfl : v = 0 ∨ v = 1 ∨ v = 2 := by omega
  · exact ⟨_, rfl, .inl rfl⟩
  · exact ⟨_, rfl, .inr (.inl rfl)⟩
  · exact ⟨_, rfl, .inr (.inr rfl)⟩
section
variable {a : Nat} {y : Int} {cs0 : Int → Int → Cells}
theorem turns {w : List Nat} {M C : Int → Int → Cells} (f : F a y w cs0 M C) (hy : 0 ≤ y) (hy2 : y < 2 ^ 200) : ∀ (n i : Nat) {x z : Int} {o4 o6 o7 o8 : Option Val}, n + i = 6 → 0 ≤ z → z + 3 * n < 2 ^ 50 →
    ∃ x' z' o4' o6' o7' o8', 0 ≤ z' ∧ z' ≤ z + 3 * n ∧ loopF ⟨rangeV 0 6, none⟩ (fun v cs s => setT cs (.nm 4) v s) (fun s cs => evSs G0 (callN G0 38) (a + 1) false bodyW s cs) n i [some (.ref a), some (.str w), some (.ref (a + 1)), some (.ref (a + 2)), o4, none, o6, o7, o8] (C x z) =
      .nx [some (.ref a), some (.str w), some (.ref (a + 1)), some (.ref (a + 2)), o4', none, o6', o7', o8'] (C x' z')
  | 0, i, x, z, o4, o6, o7, o8, _, hz, _ => ⟨x, z, o4, o6, o7, o8, hz, by omega, rfl⟩
  | n + 1, i, x, z, o4, o6, o7, o8, h, hz, hz2 => by
    obtain ⟨x1, z1, p6, p7, p8, h1, h2, e1⟩ := turn f hy hy2 (x := x) (z := z) (way := i) (o6 := o6) (o7 := o7) (o8 := o8) hz (by omega) (by omega) (by omega)
    obtain ⟨x2, z2, q4, q6, q7, q8, h3, h4, e2⟩ := turns f hy hy2 n (i + 1) (x := x1) (z := z1) (o4 := some (.int i)) (o6 := p6) (o7 := p7) (o8 := p8) (by omega) h1 (by omega)
    refine ⟨x2, z2, q4, q6, q7, q8, h3, by omega, ?_⟩
    have ea : Src.at_ (C x z) ⟨rangeV 0 6, none⟩ i = some (.int i) := range_at (by omega)
    unfold loopF
    rw [ea]
    show (match evSs G0 (callN G0 38) (a + 1) false bodyW [some (.ref a), some (.str w), some (.ref (a + 1)), some (.ref (a + 2)), some (.int i), none, o6, o7, o8] (C x z) with
      | .nx s cs => loopF _ _ _ n (i + 1) s cs
      | .ct s cs => loopF _ _ _ n (i + 1) s cs
      | .bk s cs => .nx s cs
      | r => r) = _
    rw [e1]
    exact e2
/-- one pass of the law -/
theorem right (hF : ∀ w, w = [97] ∨ w = [98, 99, 100] ∨ w = [122, 122] → ∃ M C, F a y w cs0 M C) (at0 : ∀ x z, (cs0 x z)[a]? = some (pot x y z)) (set0 : ∀ x z x' z', (cs0 x z).set a (pot x' y z') = cs0 x' z') (len : ∀ x z, (cs0 x z).length = a + 1) (hy : 0 ≤ y) (hy2 : y < 2 ^ 200) {x z : Int} {b : Nat} (hz : 0 ≤ z) (hz2 : z < 2 ^ 40) :
    ∃ x' z', 0 ≤ z' ∧ z' ≤ z + 30 ∧ callN G0 39 "_law_right" [.ref a] b (cs0 x z) = .ok (.bl true) (cs0 x' z') := by
  obtain ⟨v0, x1, z1, a1, a2, a3, a4, d0⟩ := dip (n := 37) (base := a + 1) (m := 3) (at0 x z) (by omega) (by omega) hy hy2 hz (by omega)
  rw [set0] at d0
  have d0 : callN G0 38 "_law_dip" [.ref a, .int 3] (a + 1) (cs0 x z) = .ok (.int v0) (cs0 x1 z1) := d0
  obtain ⟨w, ew, hw⟩ := word_at a1 a2
  obtain ⟨M, C, f⟩ := hF w hw
  obtain ⟨x2, z2, o4, o6, o7, o8, b3, b4, lp⟩ := turns f hy hy2 6 0 (x := x1) (z := z1) (o4 := none) (o6 := none) (o7 := none) (o8 := none) rfl a3 (by omega)
  obtain ⟨v3, x3, z3, c1, c2, c3, c4, d3⟩ := dip (n := 37) (base := a + 1) (m := 8) (f.at_ x2 z2) (by omega) (by omega) hy hy2 b3 (by omega)
  rw [f.set] at d3
  have d3 : callN G0 38 "_law_dip" [.ref a, .int 8] (a + 1) (C x2 z2) = .ok (.int v3) (C x3 z3) := d3
  obtain ⟨u, eu, t3⟩ := f.strange x3 z3 v3 c1 c2
  have tf := f.fin x3 z3
  unfold told at t3
  unfold sMain at t3 tf
  have n3 := ne_str (callN G0 38) (a + 1) [104, 111, 115, 116] (C x3 z3) rfl
  refine ⟨x3, z3, c3, by omega, ?_⟩
  show (match G0.defs.lookup ("_law_right" : Str) with
    | some d => runD G0 (callN G0 38) d [.ref a] b (cs0 x z)
    | none => .bad) = _
  rw [look_right]
  have key : evSs G0 (callN G0 38) (a + 1) false b__law_right.body [some (.ref a), none, none, none, none, none, none, none, none] (cs0 x z) = .rt (.bl true) (cs0 x3 z3) := by
    unfold b__law_right
    simp only
    refine (ss_cons (s1 := [some (.ref a), some (.str w), none, none, none, none, none, none, none]) (cs1 := cs0 x1 z1) ?_).trans ?_
    · refine (asg_ix (e_words _ _ _ _) (u := .int v0) (cs2 := cs0 x1 z1) ?_ ((ix_l _ _ _).trans ew)).trans rfl
      simp [evE, evEs, getS, R.bind, R.of, cg_dip, d0]
    refine (ss_cons (s1 := [some (.ref a), some (.str w), some (.ref (a + 1)), none, none, none, none, none, none]) (cs1 := M x1 z1) ?_).trans ?_
    · exact (asg_e (ev_cll (e_filT _ _ _ _ _) rfl (f.t1 x1 z1))).trans rfl
    refine (ss_cons (s1 := [some (.ref a), some (.str w), some (.ref (a + 1)), some (.ref (a + 2)), none, none, none, none, none]) (cs1 := C x1 z1) ?_).trans ?_
    · exact (asg_e (ev_cll (e_filN _ _ _ _) rfl (f.t2 x1 z1))).trans rfl
    refine (ss_cons (s1 := [some (.ref a), some (.str w), some (.ref (a + 1)), some (.ref (a + 2)), o4, none, o6, o7, o8]) (cs1 := C x2 z2) ?_).trans ?_
    · exact for_rng (n := 6) rfl (by omega) lp
    refine (ss_cons (s1 := [some (.ref a), some (.str w), some (.ref (a + 1)), some (.ref (a + 2)), o4, some u, o6, o7, o8]) (cs1 := C x3 z3) ?_).trans ?_
    · refine (asg_ix (e_str _ _ _ _) (u := .int v3) (cs2 := C x3 z3) ?_ ((ix_l _ _ _).trans eu)).trans rfl
      simp [evE, evEs, getS, R.bind, R.of, cg_dip, d3]
    refine (ss_cons (s1 := [some (.ref a), some (.str w), some (.ref (a + 1)), some (.ref (a + 2)), o4, some u, o6, o7, o8]) (cs1 := C x3 z3) ?_).trans ?_
    · simp [evSs, evS, evE, evEs, getS, R.bind, R.of, SR.ofR, SR.ofO, EV.truthy, cg_told, t3, n3]
    have fin : evE G0 (callN G0 38) (a + 1) (.cmp .Eq (.cll "told_apart" (.cons (.var 2) (.cons (.var 3) (.cons (.val (.str [115, 47, 109, 97, 105, 110])) .nil))) [] .nil) (.ite (.cmp .Eq (.var 1) (.val (.str [98]))) (.val .non) (.tup (.cons (.val (.str [97])) (.cons (.val (.str [107])) .nil)))))
        [some (.ref a), some (.str w), some (.ref (a + 1)), some (.ref (a + 2)), o4, some u, o6, o7, o8] (C x3 z3) = .ok (.bl true) (C x3 z3) := by
      have e1 : evE G0 (callN G0 38) (a + 1) (.cll "told_apart" (.cons (.var 2) (.cons (.var 3) (.cons (.val (.str [115, 47, 109, 97, 105, 110])) .nil))) [] .nil) [some (.ref a), some (.str w), some (.ref (a + 1)), some (.ref (a + 2)), o4, some u, o6, o7, o8] (C x3 z3) = .ok (.tup [.str [97], .str [107]]) (C x3 z3) :=
        ev_cll rfl rfl ((cg_ta _ _ _ _ _ _).trans tf)
      show ((evE G0 (callN G0 38) (a + 1) (.cll "told_apart" (.cons (.var 2) (.cons (.var 3) (.cons (.val (.str [115, 47, 109, 97, 105, 110])) .nil))) [] .nil) _ (C x3 z3)).bind _) = _
      rw [e1]
      rcases hw with rfl | rfl | rfl <;> rfl
    show (match evS G0 (callN G0 38) (a + 1) false (.ret _) _ (C x3 z3) with
      | .nx s cs => evSs G0 (callN G0 38) (a + 1) false .nil s cs
      | x => x) = _
    rw [ret_e fin rfl, f.take]
  have hb : (if b__law_right.keep = true then b else (cs0 x z).length) = a + 1 := by
    show (if false = true then b else (cs0 x z).length) = a + 1
    rw [if_neg (by simp), len]
  show runD G0 (callN G0 38) b__law_right [.ref a] b (cs0 x z) = _
  unfold runD
  simp only
  rw [hb]
  have hl : [Val.ref a].length = b__law_right.ps.length := rfl
  rw [if_pos hl]
  have hs : [Val.ref a].map some ++ List.replicate (b__law_right.n - [Val.ref a].length) none = [some (.ref a), none, none, none, none, none, none, none, none] := rfl
  have hk : b__law_right.keep = false := rfl
  rw [hs, hk, key]
end
end PX
namespace PX
open PySem EV
theorem T1_t1A (x y z : Int) : callG G0 (callN G0 38) 1 ("Tree" : Str) [filT [97]] [] [] [pot x y z] = .ok (.ref 1) [pot x y z, obT [97]] := by kernel_rfl
theorem T1_t1B (x y z : Int) : callG G0 (callN G0 38) 1 ("Tree" : Str) [filT [98, 99, 100]] [] [] [pot x y z] = .ok (.ref 1) [pot x y z, obT [98, 99, 100]] := by kernel_rfl
theorem T1_t1Z (x y z : Int) : callG G0 (callN G0 38) 1 ("Tree" : Str) [filT [122, 122]] [] [] [pot x y z] = .ok (.ref 1) [pot x y z, obT [122, 122]] := by kernel_rfl
theorem T1_t2 (x y z : Int) (w : List Nat) : callG G0 (callN G0 38) 1 ("Tree" : Str) [filN] [] [] [pot x y z, obT w] = .ok (.ref 2) [pot x y z, obT w, obN] := by kernel_rfl
theorem T1_m0A (x y z : Int) : told 0 0 (.str [115, 47, 109, 97, 105, 110]) (.str [104]) [pot x y z, obT [97], obN] = .ok (.str []) [pot x y z, obT [97], obN] := by kernel_rfl
theorem T1_m0B (x y z : Int) : told 0 0 (.str [115, 47, 109, 97, 105, 110]) (.str [104]) [pot x y z, obT [98, 99, 100], obN] = .ok (.str []) [pot x y z, obT [98, 99, 100], obN] := by kernel_rfl
theorem T1_m0Z (x y z : Int) : told 0 0 (.str [115, 47, 109, 97, 105, 110]) (.str [104]) [pot x y z, obT [122, 122], obN] = .ok (.str []) [pot x y z, obT [122, 122], obN] := by kernel_rfl
theorem T1_o0_0 (x y z : Int) (w bx : List Nat) : told 0 0 (.str [100, 47, 98]) (.str bx) [pot x y z, obT w, obN] = .ok (.str [112, 97, 116, 104]) [pot x y z, obT w, obN] := by kernel_rfl
theorem T1_o0_1 (x y z : Int) (w bx : List Nat) : told 0 0 (.str []) (.str bx) [pot x y z, obT w, obN] = .ok (.str [112, 97, 116, 104]) [pot x y z, obT w, obN] := by kernel_rfl
theorem T1_o0_2 (x y z : Int) (w bx : List Nat) : told 0 0 (.non) (.str bx) [pot x y z, obT w, obN] = .ok (.str [112, 97, 116, 104]) [pot x y z, obT w, obN] := by kernel_rfl
theorem T1_o0_3 (x y z : Int) (w bx : List Nat) : told 0 0 (.int 0) (.str bx) [pot x y z, obT w, obN] = .ok (.str [112, 97, 116, 104]) [pot x y z, obT w, obN] := by kernel_rfl
theorem T1_o0_4 (x y z : Int) (w bx : List Nat) : told 0 0 (.tup [.str [115, 47, 109, 97, 105, 110]]) (.str bx) [pot x y z, obT w, obN] = .ok (.str [112, 97, 116, 104]) [pot x y z, obT w, obN] := by kernel_rfl
theorem T1_o0_5 (x y z : Int) (w bx : List Nat) : told 0 0 (.str [109, 97, 105, 110]) (.str bx) [pot x y z, obT w, obN] = .ok (.str [112, 97, 116, 104]) [pot x y z, obT w, obN] := by kernel_rfl
theorem T1_o0_6 (x y z : Int) (w bx : List Nat) : told 0 0 (.str [115, 47, 109, 97, 105, 110, 32]) (.str bx) [pot x y z, obT w, obN] = .ok (.str [112, 97, 116, 104]) [pot x y z, obT w, obN] := by kernel_rfl
theorem T1_o0_7 (x y z : Int) (w bx : List Nat) : told 0 0 (.lst [.str [115, 47, 109, 97, 105, 110]]) (.str bx) [pot x y z, obT w, obN] = .ok (.str [112, 97, 116, 104]) [pot x y z, obT w, obN] := by kernel_rfl
theorem T1_o0_8 (x y z : Int) (w bx : List Nat) : told 0 0 (.str [100, 47, 120]) (.str bx) [pot x y z, obT w, obN] = .ok (.str [112, 97, 116, 104]) [pot x y z, obT w, obN] := by kernel_rfl
theorem T1_h0 (x y z : Int) (w : List Nat) : told 0 0 (.str [100, 47, 101]) (.str [104]) [pot x y z, obT w, obN] = .ok (.str [112, 97, 116, 104]) [pot x y z, obT w, obN] := by kernel_rfl
theorem T1_c0A (x y z : Int) : told 0 0 (.str [100, 47, 99]) (.str [104]) [pot x y z, obT [97], obN] = .ok (.str []) [pot x y z, obT [97], obN] := by kernel_rfl
theorem T1_c0B (x y z : Int) : told 0 0 (.str [100, 47, 99]) (.str [104]) [pot x y z, obT [98, 99, 100], obN] = .ok (.str []) [pot x y z, obT [98, 99, 100], obN] := by kernel_rfl
theorem T1_c0Z (x y z : Int) : told 0 0 (.str [100, 47, 99]) (.str [104]) [pot x y z, obT [122, 122], obN] = .ok (.str []) [pot x y z, obT [122, 122], obN] := by kernel_rfl
theorem T1_m1A (x y z : Int) : told 0 1 (.str [115, 47, 109, 97, 105, 110]) (.str [104]) [pot x y z, obT [97], obN] = .ok (.str []) [pot x y z, obT [97], obN] := by kernel_rfl
theorem T1_m1B (x y z : Int) : told 0 1 (.str [115, 47, 109, 97, 105, 110]) (.str [104]) [pot x y z, obT [98, 99, 100], obN] = .ok (.str []) [pot x y z, obT [98, 99, 100], obN] := by kernel_rfl
theorem T1_m1Z (x y z : Int) : told 0 1 (.str [115, 47, 109, 97, 105, 110]) (.str [104]) [pot x y z, obT [122, 122], obN] = .ok (.str []) [pot x y z, obT [122, 122], obN] := by kernel_rfl
theorem T1_o1_0 (x y z : Int) (w bx : List Nat) : told 0 1 (.str [100, 47, 98]) (.str bx) [pot x y z, obT w, obN] = .ok (.str [112, 97, 116, 104]) [pot x y z, obT w, obN] := by kernel_rfl
theorem T1_o1_1 (x y z : Int) (w bx : List Nat) : told 0 1 (.str []) (.str bx) [pot x y z, obT w, obN] = .ok (.str [112, 97, 116, 104]) [pot x y z, obT w, obN] := by kernel_rfl
theorem T1_o1_2 (x y z : Int) (w bx : List Nat) : told 0 1 (.non) (.str bx) [pot x y z, obT w, obN] = .ok (.str [112, 97, 116, 104]) [pot x y z, obT w, obN] := by kernel_rfl
theorem T1_o1_3 (x y z : Int) (w bx : List Nat) : told 0 1 (.int 0) (.str bx) [pot x y z, obT w, obN] = .ok (.str [112, 97, 116, 104]) [pot x y z, obT w, obN] := by kernel_rfl
theorem T1_o1_4 (x y z : Int) (w bx : List Nat) : told 0 1 (.tup [.str [115, 47, 109, 97, 105, 110]]) (.str bx) [pot x y z, obT w, obN] = .ok (.str [112, 97, 116, 104]) [pot x y z, obT w, obN] := by kernel_rfl
theorem T1_o1_5 (x y z : Int) (w bx : List Nat) : told 0 1 (.str [109, 97, 105, 110]) (.str bx) [pot x y z, obT w, obN] = .ok (.str [112, 97, 116, 104]) [pot x y z, obT w, obN] := by kernel_rfl
theorem T1_o1_6 (x y z : Int) (w bx : List Nat) : told 0 1 (.str [115, 47, 109, 97, 105, 110, 32]) (.str bx) [pot x y z, obT w, obN] = .ok (.str [112, 97, 116, 104]) [pot x y z, obT w, obN] := by kernel_rfl
theorem T1_o1_7 (x y z : Int) (w bx : List Nat) : told 0 1 (.lst [.str [115, 47, 109, 97, 105, 110]]) (.str bx) [pot x y z, obT w, obN] = .ok (.str [112, 97, 116, 104]) [pot x y z, obT w, obN] := by kernel_rfl
theorem T1_o1_8 (x y z : Int) (w bx : List Nat) : told 0 1 (.str [100, 47, 120]) (.str bx) [pot x y z, obT w, obN] = .ok (.str [112, 97, 116, 104]) [pot x y z, obT w, obN] := by kernel_rfl
theorem T1_h1 (x y z : Int) (w : List Nat) : told 0 1 (.str [100, 47, 101]) (.str [104]) [pot x y z, obT w, obN] = .ok (.str [112, 97, 116, 104]) [pot x y z, obT w, obN] := by kernel_rfl
theorem T1_c1A (x y z : Int) : told 0 1 (.str [100, 47, 99]) (.str [104]) [pot x y z, obT [97], obN] = .ok (.str []) [pot x y z, obT [97], obN] := by kernel_rfl
theorem T1_c1B (x y z : Int) : told 0 1 (.str [100, 47, 99]) (.str [104]) [pot x y z, obT [98, 99, 100], obN] = .ok (.str []) [pot x y z, obT [98, 99, 100], obN] := by kernel_rfl
theorem T1_c1Z (x y z : Int) : told 0 1 (.str [100, 47, 99]) (.str [104]) [pot x y z, obT [122, 122], obN] = .ok (.str []) [pot x y z, obT [122, 122], obN] := by kernel_rfl
theorem T1_m2A (x y z : Int) : told 0 2 (.str [115, 47, 109, 97, 105, 110]) (.str [104]) [pot x y z, obT [97], obN] = .ok (.str []) [pot x y z, obT [97], obN] := by kernel_rfl
theorem T1_m2B (x y z : Int) : told 0 2 (.str [115, 47, 109, 97, 105, 110]) (.str [104]) [pot x y z, obT [98, 99, 100], obN] = .ok (.str []) [pot x y z, obT [98, 99, 100], obN] := by kernel_rfl
theorem T1_m2Z (x y z : Int) : told 0 2 (.str [115, 47, 109, 97, 105, 110]) (.str [104]) [pot x y z, obT [122, 122], obN] = .ok (.str []) [pot x y z, obT [122, 122], obN] := by kernel_rfl
theorem T1_o2_0 (x y z : Int) (w bx : List Nat) : told 0 2 (.str [100, 47, 98]) (.str bx) [pot x y z, obT w, obN] = .ok (.str [112, 97, 116, 104]) [pot x y z, obT w, obN] := by kernel_rfl
theorem T1_o2_1 (x y z : Int) (w bx : List Nat) : told 0 2 (.str []) (.str bx) [pot x y z, obT w, obN] = .ok (.str [112, 97, 116, 104]) [pot x y z, obT w, obN] := by kernel_rfl
theorem T1_o2_2 (x y z : Int) (w bx : List Nat) : told 0 2 (.non) (.str bx) [pot x y z, obT w, obN] = .ok (.str [112, 97, 116, 104]) [pot x y z, obT w, obN] := by kernel_rfl
theorem T1_o2_3 (x y z : Int) (w bx : List Nat) : told 0 2 (.int 0) (.str bx) [pot x y z, obT w, obN] = .ok (.str [112, 97, 116, 104]) [pot x y z, obT w, obN] := by kernel_rfl
theorem T1_o2_4 (x y z : Int) (w bx : List Nat) : told 0 2 (.tup [.str [115, 47, 109, 97, 105, 110]]) (.str bx) [pot x y z, obT w, obN] = .ok (.str [112, 97, 116, 104]) [pot x y z, obT w, obN] := by kernel_rfl
theorem T1_o2_5 (x y z : Int) (w bx : List Nat) : told 0 2 (.str [109, 97, 105, 110]) (.str bx) [pot x y z, obT w, obN] = .ok (.str [112, 97, 116, 104]) [pot x y z, obT w, obN] := by kernel_rfl
theorem T1_o2_6 (x y z : Int) (w bx : List Nat) : told 0 2 (.str [115, 47, 109, 97, 105, 110, 32]) (.str bx) [pot x y z, obT w, obN] = .ok (.str [112, 97, 116, 104]) [pot x y z, obT w, obN] := by kernel_rfl
theorem T1_o2_7 (x y z : Int) (w bx : List Nat) : told 0 2 (.lst [.str [115, 47, 109, 97, 105, 110]]) (.str bx) [pot x y z, obT w, obN] = .ok (.str [112, 97, 116, 104]) [pot x y z, obT w, obN] := by kernel_rfl
theorem T1_o2_8 (x y z : Int) (w bx : List Nat) : told 0 2 (.str [100, 47, 120]) (.str bx) [pot x y z, obT w, obN] = .ok (.str [112, 97, 116, 104]) [pot x y z, obT w, obN] := by kernel_rfl
theorem T1_h2 (x y z : Int) (w : List Nat) : told 0 2 (.str [100, 47, 101]) (.str [104]) [pot x y z, obT w, obN] = .ok (.str [112, 97, 116, 104]) [pot x y z, obT w, obN] := by kernel_rfl
theorem T1_c2A (x y z : Int) : told 0 2 (.str [100, 47, 99]) (.str [104]) [pot x y z, obT [97], obN] = .ok (.str []) [pot x y z, obT [97], obN] := by kernel_rfl
theorem T1_c2B (x y z : Int) : told 0 2 (.str [100, 47, 99]) (.str [104]) [pot x y z, obT [98, 99, 100], obN] = .ok (.str []) [pot x y z, obT [98, 99, 100], obN] := by kernel_rfl
theorem T1_c2Z (x y z : Int) : told 0 2 (.str [100, 47, 99]) (.str [104]) [pot x y z, obT [122, 122], obN] = .ok (.str []) [pot x y z, obT [122, 122], obN] := by kernel_rfl
theorem T1_m3A (x y z : Int) : told 0 3 (.str [115, 47, 109, 97, 105, 110]) (.str [104]) [pot x y z, obT [97], obN] = .ok (.str []) [pot x y z, obT [97], obN] := by kernel_rfl
theorem T1_m3B (x y z : Int) : told 0 3 (.str [115, 47, 109, 97, 105, 110]) (.str [104]) [pot x y z, obT [98, 99, 100], obN] = .ok (.str []) [pot x y z, obT [98, 99, 100], obN] := by kernel_rfl
theorem T1_m3Z (x y z : Int) : told 0 3 (.str [115, 47, 109, 97, 105, 110]) (.str [104]) [pot x y z, obT [122, 122], obN] = .ok (.str []) [pot x y z, obT [122, 122], obN] := by kernel_rfl
theorem T1_o3_0 (x y z : Int) (w bx : List Nat) : told 0 3 (.str [100, 47, 98]) (.str bx) [pot x y z, obT w, obN] = .ok (.str [112, 97, 116, 104]) [pot x y z, obT w, obN] := by kernel_rfl
theorem T1_o3_1 (x y z : Int) (w bx : List Nat) : told 0 3 (.str []) (.str bx) [pot x y z, obT w, obN] = .ok (.str [112, 97, 116, 104]) [pot x y z, obT w, obN] := by kernel_rfl
theorem T1_o3_2 (x y z : Int) (w bx : List Nat) : told 0 3 (.non) (.str bx) [pot x y z, obT w, obN] = .ok (.str [112, 97, 116, 104]) [pot x y z, obT w, obN] := by kernel_rfl
theorem T1_o3_3 (x y z : Int) (w bx : List Nat) : told 0 3 (.int 0) (.str bx) [pot x y z, obT w, obN] = .ok (.str [112, 97, 116, 104]) [pot x y z, obT w, obN] := by kernel_rfl
theorem T1_o3_4 (x y z : Int) (w bx : List Nat) : told 0 3 (.tup [.str [115, 47, 109, 97, 105, 110]]) (.str bx) [pot x y z, obT w, obN] = .ok (.str [112, 97, 116, 104]) [pot x y z, obT w, obN] := by kernel_rfl
theorem T1_o3_5 (x y z : Int) (w bx : List Nat) : told 0 3 (.str [109, 97, 105, 110]) (.str bx) [pot x y z, obT w, obN] = .ok (.str [112, 97, 116, 104]) [pot x y z, obT w, obN] := by kernel_rfl
theorem T1_o3_6 (x y z : Int) (w bx : List Nat) : told 0 3 (.str [115, 47, 109, 97, 105, 110, 32]) (.str bx) [pot x y z, obT w, obN] = .ok (.str [112, 97, 116, 104]) [pot x y z, obT w, obN] := by kernel_rfl
theorem T1_o3_7 (x y z : Int) (w bx : List Nat) : told 0 3 (.lst [.str [115, 47, 109, 97, 105, 110]]) (.str bx) [pot x y z, obT w, obN] = .ok (.str [112, 97, 116, 104]) [pot x y z, obT w, obN] := by kernel_rfl
theorem T1_o3_8 (x y z : Int) (w bx : List Nat) : told 0 3 (.str [100, 47, 120]) (.str bx) [pot x y z, obT w, obN] = .ok (.str [112, 97, 116, 104]) [pot x y z, obT w, obN] := by kernel_rfl
theorem T1_h3 (x y z : Int) (w : List Nat) : told 0 3 (.str [100, 47, 101]) (.str [104]) [pot x y z, obT w, obN] = .ok (.str [112, 97, 116, 104]) [pot x y z, obT w, obN] := by kernel_rfl
theorem T1_g3 (x y z : Int) (w : List Nat) : told 0 3 (.str [100, 47, 99]) (.str [104]) [pot x y z, obT w, obN] = .ok (.str [112, 97, 116, 104]) [pot x y z, obT w, obN] := by kernel_rfl
theorem T1_m4A (x y z : Int) : told 0 4 (.str [115, 47, 109, 97, 105, 110]) (.str [104]) [pot x y z, obT [97], obN] = .ok (.str []) [pot x y z, obT [97], obN] := by kernel_rfl
theorem T1_m4B (x y z : Int) : told 0 4 (.str [115, 47, 109, 97, 105, 110]) (.str [104]) [pot x y z, obT [98, 99, 100], obN] = .ok (.str []) [pot x y z, obT [98, 99, 100], obN] := by kernel_rfl
theorem T1_m4Z (x y z : Int) : told 0 4 (.str [115, 47, 109, 97, 105, 110]) (.str [104]) [pot x y z, obT [122, 122], obN] = .ok (.str []) [pot x y z, obT [122, 122], obN] := by kernel_rfl
theorem T1_o4_0 (x y z : Int) (w bx : List Nat) : told 0 4 (.str [100, 47, 98]) (.str bx) [pot x y z, obT w, obN] = .ok (.str [112, 97, 116, 104]) [pot x y z, obT w, obN] := by kernel_rfl
theorem T1_o4_1 (x y z : Int) (w bx : List Nat) : told 0 4 (.str []) (.str bx) [pot x y z, obT w, obN] = .ok (.str [112, 97, 116, 104]) [pot x y z, obT w, obN] := by kernel_rfl
theorem T1_o4_2 (x y z : Int) (w bx : List Nat) : told 0 4 (.non) (.str bx) [pot x y z, obT w, obN] = .ok (.str [112, 97, 116, 104]) [pot x y z, obT w, obN] := by kernel_rfl
theorem T1_o4_3 (x y z : Int) (w bx : List Nat) : told 0 4 (.int 0) (.str bx) [pot x y z, obT w, obN] = .ok (.str [112, 97, 116, 104]) [pot x y z, obT w, obN] := by kernel_rfl
theorem T1_o4_4 (x y z : Int) (w bx : List Nat) : told 0 4 (.tup [.str [115, 47, 109, 97, 105, 110]]) (.str bx) [pot x y z, obT w, obN] = .ok (.str [112, 97, 116, 104]) [pot x y z, obT w, obN] := by kernel_rfl
theorem T1_o4_5 (x y z : Int) (w bx : List Nat) : told 0 4 (.str [109, 97, 105, 110]) (.str bx) [pot x y z, obT w, obN] = .ok (.str [112, 97, 116, 104]) [pot x y z, obT w, obN] := by kernel_rfl
theorem T1_o4_6 (x y z : Int) (w bx : List Nat) : told 0 4 (.str [115, 47, 109, 97, 105, 110, 32]) (.str bx) [pot x y z, obT w, obN] = .ok (.str [112, 97, 116, 104]) [pot x y z, obT w, obN] := by kernel_rfl
theorem T1_o4_7 (x y z : Int) (w bx : List Nat) : told 0 4 (.lst [.str [115, 47, 109, 97, 105, 110]]) (.str bx) [pot x y z, obT w, obN] = .ok (.str [112, 97, 116, 104]) [pot x y z, obT w, obN] := by kernel_rfl
theorem T1_o4_8 (x y z : Int) (w bx : List Nat) : told 0 4 (.str [100, 47, 120]) (.str bx) [pot x y z, obT w, obN] = .ok (.str [112, 97, 116, 104]) [pot x y z, obT w, obN] := by kernel_rfl
theorem T1_h4 (x y z : Int) (w : List Nat) : told 0 4 (.str [100, 47, 101]) (.str [104]) [pot x y z, obT w, obN] = .ok (.str [112, 97, 116, 104]) [pot x y z, obT w, obN] := by kernel_rfl
theorem T1_g4 (x y z : Int) (w : List Nat) : told 0 4 (.str [100, 47, 99]) (.str [104]) [pot x y z, obT w, obN] = .ok (.str [112, 97, 116, 104]) [pot x y z, obT w, obN] := by kernel_rfl
theorem T1_m5A (x y z : Int) : told 0 5 (.str [115, 47, 109, 97, 105, 110]) (.str [104]) [pot x y z, obT [97], obN] = .ok (.str []) [pot x y z, obT [97], obN] := by kernel_rfl
theorem T1_m5B (x y z : Int) : told 0 5 (.str [115, 47, 109, 97, 105, 110]) (.str [104]) [pot x y z, obT [98, 99, 100], obN] = .ok (.str []) [pot x y z, obT [98, 99, 100], obN] := by kernel_rfl
theorem T1_m5Z (x y z : Int) : told 0 5 (.str [115, 47, 109, 97, 105, 110]) (.str [104]) [pot x y z, obT [122, 122], obN] = .ok (.str []) [pot x y z, obT [122, 122], obN] := by kernel_rfl
theorem T1_o5_0 (x y z : Int) (w bx : List Nat) : told 0 5 (.str [100, 47, 98]) (.str bx) [pot x y z, obT w, obN] = .ok (.str [112, 97, 116, 104]) [pot x y z, obT w, obN] := by kernel_rfl
theorem T1_o5_1 (x y z : Int) (w bx : List Nat) : told 0 5 (.str []) (.str bx) [pot x y z, obT w, obN] = .ok (.str [112, 97, 116, 104]) [pot x y z, obT w, obN] := by kernel_rfl
theorem T1_o5_2 (x y z : Int) (w bx : List Nat) : told 0 5 (.non) (.str bx) [pot x y z, obT w, obN] = .ok (.str [112, 97, 116, 104]) [pot x y z, obT w, obN] := by kernel_rfl
theorem T1_o5_3 (x y z : Int) (w bx : List Nat) : told 0 5 (.int 0) (.str bx) [pot x y z, obT w, obN] = .ok (.str [112, 97, 116, 104]) [pot x y z, obT w, obN] := by kernel_rfl
theorem T1_o5_4 (x y z : Int) (w bx : List Nat) : told 0 5 (.tup [.str [115, 47, 109, 97, 105, 110]]) (.str bx) [pot x y z, obT w, obN] = .ok (.str [112, 97, 116, 104]) [pot x y z, obT w, obN] := by kernel_rfl
theorem T1_o5_5 (x y z : Int) (w bx : List Nat) : told 0 5 (.str [109, 97, 105, 110]) (.str bx) [pot x y z, obT w, obN] = .ok (.str [112, 97, 116, 104]) [pot x y z, obT w, obN] := by kernel_rfl
theorem T1_o5_6 (x y z : Int) (w bx : List Nat) : told 0 5 (.str [115, 47, 109, 97, 105, 110, 32]) (.str bx) [pot x y z, obT w, obN] = .ok (.str [112, 97, 116, 104]) [pot x y z, obT w, obN] := by kernel_rfl
theorem T1_o5_7 (x y z : Int) (w bx : List Nat) : told 0 5 (.lst [.str [115, 47, 109, 97, 105, 110]]) (.str bx) [pot x y z, obT w, obN] = .ok (.str [112, 97, 116, 104]) [pot x y z, obT w, obN] := by kernel_rfl
theorem T1_o5_8 (x y z : Int) (w bx : List Nat) : told 0 5 (.str [100, 47, 120]) (.str bx) [pot x y z, obT w, obN] = .ok (.str [112, 97, 116, 104]) [pot x y z, obT w, obN] := by kernel_rfl
theorem T1_h5 (x y z : Int) (w : List Nat) : told 0 5 (.str [100, 47, 101]) (.str [104]) [pot x y z, obT w, obN] = .ok (.str [112, 97, 116, 104]) [pot x y z, obT w, obN] := by kernel_rfl
theorem T1_c5A (x y z : Int) : told 0 5 (.str [100, 47, 99]) (.str [104]) [pot x y z, obT [97], obN] = .ok (.str []) [pot x y z, obT [97], obN] := by kernel_rfl
theorem T1_c5B (x y z : Int) : told 0 5 (.str [100, 47, 99]) (.str [104]) [pot x y z, obT [98, 99, 100], obN] = .ok (.str []) [pot x y z, obT [98, 99, 100], obN] := by kernel_rfl
theorem T1_c5Z (x y z : Int) : told 0 5 (.str [100, 47, 99]) (.str [104]) [pot x y z, obT [122, 122], obN] = .ok (.str []) [pot x y z, obT [122, 122], obN] := by kernel_rfl
theorem T1_s0 (x y z : Int) (w : List Nat) : told 0 5 (.str [115, 47, 109, 97, 105, 110]) (.str []) [pot x y z, obT w, obN] = .ok (.str [104, 111, 115, 116]) [pot x y z, obT w, obN] := by kernel_rfl
theorem T1_s1 (x y z : Int) (w : List Nat) : told 0 5 (.str [115, 47, 109, 97, 105, 110]) (.non) [pot x y z, obT w, obN] = .ok (.str [104, 111, 115, 116]) [pot x y z, obT w, obN] := by kernel_rfl
theorem T1_s2 (x y z : Int) (w : List Nat) : told 0 5 (.str [115, 47, 109, 97, 105, 110]) (.str [72]) [pot x y z, obT w, obN] = .ok (.str [104, 111, 115, 116]) [pot x y z, obT w, obN] := by kernel_rfl
theorem T1_s3 (x y z : Int) (w : List Nat) : told 0 5 (.str [115, 47, 109, 97, 105, 110]) (.int 0) [pot x y z, obT w, obN] = .ok (.str [104, 111, 115, 116]) [pot x y z, obT w, obN] := by kernel_rfl
theorem T1_s4 (x y z : Int) (w : List Nat) : told 0 5 (.str [115, 47, 109, 97, 105, 110]) (.bl true) [pot x y z, obT w, obN] = .ok (.str [104, 111, 115, 116]) [pot x y z, obT w, obN] := by kernel_rfl
theorem T1_s5 (x y z : Int) (w : List Nat) : told 0 5 (.str [115, 47, 109, 97, 105, 110]) (.tup [.str [104]]) [pot x y z, obT w, obN] = .ok (.str [104, 111, 115, 116]) [pot x y z, obT w, obN] := by kernel_rfl
theorem T1_s6 (x y z : Int) (w : List Nat) : told 0 5 (.str [115, 47, 109, 97, 105, 110]) (.str [104, 49]) [pot x y z, obT w, obN] = .ok (.str [104, 111, 115, 116]) [pot x y z, obT w, obN] := by kernel_rfl
theorem T1_s7 (x y z : Int) (w : List Nat) : told 0 5 (.str [115, 47, 109, 97, 105, 110]) (.lst [.str [104]]) [pot x y z, obT w, obN] = .ok (.str [104, 111, 115, 116]) [pot x y z, obT w, obN] := by kernel_rfl
theorem T1_fA (x y z : Int) : callN G0 38 "told_apart" [.ref 1, .ref 2, sMain] 1 [pot x y z, obT [97], obN] = .ok (.tup [.str [97], .str [107]]) [pot x y z, obT [97], obN] := by kernel_rfl
theorem T1_fB (x y z : Int) : callN G0 38 "told_apart" [.ref 1, .ref 2, sMain] 1 [pot x y z, obT [98, 99, 100], obN] = .ok (.tup [.str [97], .str [107]]) [pot x y z, obT [98, 99, 100], obN] := by kernel_rfl
theorem T1_fZ (x y z : Int) : callN G0 38 "told_apart" [.ref 1, .ref 2, sMain] 1 [pot x y z, obT [122, 122], obN] = .ok (.tup [.str [97], .str [107]]) [pot x y z, obT [122, 122], obN] := by kernel_rfl
theorem T1_main (x y z : Int) (way : Int) (w : List Nat) (hw : w = [97] ∨ w = [98, 99, 100] ∨ w = [122, 122]) (h0 : 0 ≤ way) (h6 : way < 6) : told 0 way sMain (.str [104]) [pot x y z, obT w, obN] = .ok (.str []) [pot x y z, obT w, obN] := by
  obtain rfl | rfl | rfl | rfl | rfl | rfl : way = 0 ∨ way = 1 ∨ way = 2 ∨ way = 3 ∨ way = 4 ∨ way = 5 := by omega
  · rcases hw with rfl | rfl | rfl
    · exact T1_m0A  x y z
    · exact T1_m0B  x y z
    · exact T1_m0Z  x y z
  · rcases hw with rfl | rfl | rfl
    · exact T1_m1A  x y z
    · exact T1_m1B  x y z
    · exact T1_m1Z  x y z
  · rcases hw with rfl | rfl | rfl
    · exact T1_m2A  x y z
    · exact T1_m2B  x y z
    · exact T1_m2Z  x y z
  · rcases hw with rfl | rfl | rfl
    · exact T1_m3A  x y z
    · exact T1_m3B  x y z
    · exact T1_m3Z  x y z
  · rcases hw with rfl | rfl | rfl
    · exact T1_m4A  x y z
    · exact T1_m4B  x y z
    · exact T1_m4Z  x y z
  · rcases hw with rfl | rfl | rfl
    · exact T1_m5A  x y z
    · exact T1_m5B  x y z
    · exact T1_m5Z  x y z
theorem T1_odd (x y z : Int) (way v : Int) (w bx : List Nat) (h0 : 0 ≤ way) (h6 : way < 6) (g0 : 0 ≤ v) (g9 : v < 9) : ∃ u, atOf odds v = some u ∧ told 0 way u (.str bx) [pot x y z, obT w, obN] = .ok sPath [pot x y z, obT w, obN] := by
  obtain rfl | rfl | rfl | rfl | rfl | rfl : way = 0 ∨ way = 1 ∨ way = 2 ∨ way = 3 ∨ way = 4 ∨ way = 5 := by omega
  · obtain rfl | rfl | rfl | rfl | rfl | rfl | rfl | rfl | rfl : v = 0 ∨ v = 1 ∨ v = 2 ∨ v = 3 ∨ v = 4 ∨ v = 5 ∨ v = 6 ∨ v = 7 ∨ v = 8 := by omega
    · exact ⟨_, rfl, T1_o0_0  x y z w bx⟩
    · exact ⟨_, rfl, T1_o0_1  x y z w bx⟩
    · exact ⟨_, rfl, T1_o0_2  x y z w bx⟩
    · exact ⟨_, rfl, T1_o0_3  x y z w bx⟩
    · exact ⟨_, rfl, T1_o0_4  x y z w bx⟩
    · exact ⟨_, rfl, T1_o0_5  x y z w bx⟩
    · exact ⟨_, rfl, T1_o0_6  x y z w bx⟩
    · exact ⟨_, rfl, T1_o0_7  x y z w bx⟩
    · exact ⟨_, rfl, T1_o0_8  x y z w bx⟩
  · obtain rfl | rfl | rfl | rfl | rfl | rfl | rfl | rfl | rfl : v = 0 ∨ v = 1 ∨ v = 2 ∨ v = 3 ∨ v = 4 ∨ v = 5 ∨ v = 6 ∨ v = 7 ∨ v = 8 := by omega
    · exact ⟨_, rfl, T1_o1_0  x y z w bx⟩
    · exact ⟨_, rfl, T1_o1_1  x y z w bx⟩
    · exact ⟨_, rfl, T1_o1_2  x y z w bx⟩
    · exact ⟨_, rfl, T1_o1_3  x y z w bx⟩
    · exact ⟨_, rfl, T1_o1_4  x y z w bx⟩
    · exact ⟨_, rfl, T1_o1_5  x y z w bx⟩
    · exact ⟨_, rfl, T1_o1_6  x y z w bx⟩
    · exact ⟨_, rfl, T1_o1_7  x y z w bx⟩
    · exact ⟨_, rfl, T1_o1_8  x y z w bx⟩
  · obtain rfl | rfl | rfl | rfl | rfl | rfl | rfl | rfl | rfl : v = 0 ∨ v = 1 ∨ v = 2 ∨ v = 3 ∨ v = 4 ∨ v = 5 ∨ v = 6 ∨ v = 7 ∨ v = 8 := by omega
    · exact ⟨_, rfl, T1_o2_0  x y z w bx⟩
    · exact ⟨_, rfl, T1_o2_1  x y z w bx⟩
    · exact ⟨_, rfl, T1_o2_2  x y z w bx⟩
    · exact ⟨_, rfl, T1_o2_3  x y z w bx⟩
    · exact ⟨_, rfl, T1_o2_4  x y z w bx⟩
    · exact ⟨_, rfl, T1_o2_5  x y z w bx⟩
    · exact ⟨_, rfl, T1_o2_6  x y z w bx⟩
    · exact ⟨_, rfl, T1_o2_7  x y z w bx⟩
    · exact ⟨_, rfl, T1_o2_8  x y z w bx⟩
  · obtain rfl | rfl | rfl | rfl | rfl | rfl | rfl | rfl | rfl : v = 0 ∨ v = 1 ∨ v = 2 ∨ v = 3 ∨ v = 4 ∨ v = 5 ∨ v = 6 ∨ v = 7 ∨ v = 8 := by omega
    · exact ⟨_, rfl, T1_o3_0  x y z w bx⟩
    · exact ⟨_, rfl, T1_o3_1  x y z w bx⟩
    · exact ⟨_, rfl, T1_o3_2  x y z w bx⟩
    · exact ⟨_, rfl, T1_o3_3  x y z w bx⟩
    · exact ⟨_, rfl, T1_o3_4  x y z w bx⟩
    · exact ⟨_, rfl, T1_o3_5  x y z w bx⟩
    · exact ⟨_, rfl, T1_o3_6  x y z w bx⟩
    · exact ⟨_, rfl, T1_o3_7  x y z w bx⟩
    · exact ⟨_, rfl, T1_o3_8  x y z w bx⟩
  · obtain rfl | rfl | rfl | rfl | rfl | rfl | rfl | rfl | rfl : v = 0 ∨ v = 1 ∨ v = 2 ∨ v = 3 ∨ v = 4 ∨ v = 5 ∨ v = 6 ∨ v = 7 ∨ v = 8 := by omega
    · exact ⟨_, rfl, T1_o4_0  x y z w bx⟩
    · exact ⟨_, rfl, T1_o4_1  x y z w bx⟩
    · exact ⟨_, rfl, T1_o4_2  x y z w bx⟩
    · exact ⟨_, rfl, T1_o4_3  x y z w bx⟩
    · exact ⟨_, rfl, T1_o4_4  x y z w bx⟩
    · exact ⟨_, rfl, T1_o4_5  x y z w bx⟩
    · exact ⟨_, rfl, T1_o4_6  x y z w bx⟩
    · exact ⟨_, rfl, T1_o4_7  x y z w bx⟩
    · exact ⟨_, rfl, T1_o4_8  x y z w bx⟩
  · obtain rfl | rfl | rfl | rfl | rfl | rfl | rfl | rfl | rfl : v = 0 ∨ v = 1 ∨ v = 2 ∨ v = 3 ∨ v = 4 ∨ v = 5 ∨ v = 6 ∨ v = 7 ∨ v = 8 := by omega
    · exact ⟨_, rfl, T1_o5_0  x y z w bx⟩
    · exact ⟨_, rfl, T1_o5_1  x y z w bx⟩
    · exact ⟨_, rfl, T1_o5_2  x y z w bx⟩
    · exact ⟨_, rfl, T1_o5_3  x y z w bx⟩
    · exact ⟨_, rfl, T1_o5_4  x y z w bx⟩
    · exact ⟨_, rfl, T1_o5_5  x y z w bx⟩
    · exact ⟨_, rfl, T1_o5_6  x y z w bx⟩
    · exact ⟨_, rfl, T1_o5_7  x y z w bx⟩
    · exact ⟨_, rfl, T1_o5_8  x y z w bx⟩
theorem T1_half (x y z : Int) (way v : Int) (w : List Nat) (h0 : 0 ≤ way) (h6 : way < 6) (g0 : 0 ≤ v) (g2 : v < 2) (h : (way = 3 ∨ way = 4) ∨ v = 1) : ∃ u, atOf halves v = some u ∧ told 0 way u (.str [104]) [pot x y z, obT w, obN] = .ok sPath [pot x y z, obT w, obN] := by
  by_cases hv : v = 1
  · subst hv
    obtain rfl | rfl | rfl | rfl | rfl | rfl : way = 0 ∨ way = 1 ∨ way = 2 ∨ way = 3 ∨ way = 4 ∨ way = 5 := by omega
    · exact ⟨_, rfl, T1_h0  x y z w⟩
    · exact ⟨_, rfl, T1_h1  x y z w⟩
    · exact ⟨_, rfl, T1_h2  x y z w⟩
    · exact ⟨_, rfl, T1_h3  x y z w⟩
    · exact ⟨_, rfl, T1_h4  x y z w⟩
    · exact ⟨_, rfl, T1_h5  x y z w⟩
  · obtain rfl : v = 0 := by omega
    rcases h.resolve_right hv with rfl | rfl
    · exact ⟨_, rfl, T1_g3  x y z w⟩
    · exact ⟨_, rfl, T1_g4  x y z w⟩
theorem T1_halfC (x y z : Int) (way : Int) (w : List Nat) (hw : w = [97] ∨ w = [98, 99, 100] ∨ w = [122, 122]) (h0 : 0 ≤ way) (h6 : way < 6) (h : ¬ (way = 3 ∨ way = 4)) : told 0 way (.str [100, 47, 99]) (.str [104]) [pot x y z, obT w, obN] = .ok (.str []) [pot x y z, obT w, obN] := by
  obtain rfl | rfl | rfl | rfl : way = 0 ∨ way = 1 ∨ way = 2 ∨ way = 5 := by omega
  · rcases hw with rfl | rfl | rfl
    · exact T1_c0A  x y z
    · exact T1_c0B  x y z
    · exact T1_c0Z  x y z
  · rcases hw with rfl | rfl | rfl
    · exact T1_c1A  x y z
    · exact T1_c1B  x y z
    · exact T1_c1Z  x y z
  · rcases hw with rfl | rfl | rfl
    · exact T1_c2A  x y z
    · exact T1_c2B  x y z
    · exact T1_c2Z  x y z
  · rcases hw with rfl | rfl | rfl
    · exact T1_c5A  x y z
    · exact T1_c5B  x y z
    · exact T1_c5Z  x y z
theorem T1_str (x y z : Int) (v : Int) (w : List Nat) (g0 : 0 ≤ v) (g8 : v < 8) : ∃ u, atOf stranges v = some u ∧ told 0 5 sMain u [pot x y z, obT w, obN] = .ok (.str [104, 111, 115, 116]) [pot x y z, obT w, obN] := by
  obtain rfl | rfl | rfl | rfl | rfl | rfl | rfl | rfl : v = 0 ∨ v = 1 ∨ v = 2 ∨ v = 3 ∨ v = 4 ∨ v = 5 ∨ v = 6 ∨ v = 7 := by omega
  · exact ⟨_, rfl, T1_s0  x y z w⟩
  · exact ⟨_, rfl, T1_s1  x y z w⟩
  · exact ⟨_, rfl, T1_s2  x y z w⟩
  · exact ⟨_, rfl, T1_s3  x y z w⟩
  · exact ⟨_, rfl, T1_s4  x y z w⟩
  · exact ⟨_, rfl, T1_s5  x y z w⟩
  · exact ⟨_, rfl, T1_s6  x y z w⟩
  · exact ⟨_, rfl, T1_s7  x y z w⟩
theorem T1_F (y : Int) (w : List Nat) (hw : w = [97] ∨ w = [98, 99, 100] ∨ w = [122, 122]) : ∃ M C, F 0 y w (fun x z => [pot x y z]) M C := by
  refine ⟨fun x z => [pot x y z, obT w], fun x z => [pot x y z, obT w, obN], fun _ _ => rfl, fun _ _ => rfl, fun _ _ _ _ => rfl, fun _ _ => rfl, fun _ _ _ _ => rfl, fun _ _ => rfl, fun x z => ?_, fun x z => T1_t2  x y z w, fun x z way h0 h6 => T1_main  x y z way w hw h0 h6, fun x z way v bx h0 h6 g0 g9 => T1_odd  x y z way v w bx h0 h6 g0 g9, fun x z way v h0 h6 g0 g2 h => T1_half  x y z way v w h0 h6 g0 g2 h, fun x z way h0 h6 h => T1_halfC  x y z way w hw h0 h6 h, fun x z v g0 g8 => T1_str  x y z v w g0 g8, fun x z => ?_, hw⟩
  · rcases hw with rfl | rfl | rfl
    · exact T1_t1A  x y z
    · exact T1_t1B  x y z
    · exact T1_t1Z  x y z
  · rcases hw with rfl | rfl | rfl
    · exact T1_fA  x y z
    · exact T1_fB  x y z
    · exact T1_fZ  x y z
end PX
namespace PX
open PySem EV
theorem T2_t1A (p0 q0 r0 : Int) (x y z : Int) : callG G0 (callN G0 38) 2 ("Tree" : Str) [filT [97]] [] [] [pot p0 q0 r0, pot x y z] = .ok (.ref 2) [pot p0 q0 r0, pot x y z, obT [97]] := by kernel_rfl
theorem T2_t1B (p0 q0 r0 : Int) (x y z : Int) : callG G0 (callN G0 38) 2 ("Tree" : Str) [filT [98, 99, 100]] [] [] [pot p0 q0 r0, pot x y z] = .ok (.ref 2) [pot p0 q0 r0, pot x y z, obT [98, 99, 100]] := by kernel_rfl
theorem T2_t1Z (p0 q0 r0 : Int) (x y z : Int) : callG G0 (callN G0 38) 2 ("Tree" : Str) [filT [122, 122]] [] [] [pot p0 q0 r0, pot x y z] = .ok (.ref 2) [pot p0 q0 r0, pot x y z, obT [122, 122]] := by kernel_rfl
theorem T2_t2 (p0 q0 r0 : Int) (x y z : Int) (w : List Nat) : callG G0 (callN G0 38) 2 ("Tree" : Str) [filN] [] [] [pot p0 q0 r0, pot x y z, obT w] = .ok (.ref 3) [pot p0 q0 r0, pot x y z, obT w, obN] := by kernel_rfl
theorem T2_m0A (p0 q0 r0 : Int) (x y z : Int) : told 1 0 (.str [115, 47, 109, 97, 105, 110]) (.str [104]) [pot p0 q0 r0, pot x y z, obT [97], obN] = .ok (.str []) [pot p0 q0 r0, pot x y z, obT [97], obN] := by kernel_rfl
theorem T2_m0B (p0 q0 r0 : Int) (x y z : Int) : told 1 0 (.str [115, 47, 109, 97, 105, 110]) (.str [104]) [pot p0 q0 r0, pot x y z, obT [98, 99, 100], obN] = .ok (.str []) [pot p0 q0 r0, pot x y z, obT [98, 99, 100], obN] := by kernel_rfl
theorem T2_m0Z (p0 q0 r0 : Int) (x y z : Int) : told 1 0 (.str [115, 47, 109, 97, 105, 110]) (.str [104]) [pot p0 q0 r0, pot x y z, obT [122, 122], obN] = .ok (.str []) [pot p0 q0 r0, pot x y z, obT [122, 122], obN] := by kernel_rfl
theorem T2_o0_0 (p0 q0 r0 : Int) (x y z : Int) (w bx : List Nat) : told 1 0 (.str [100, 47, 98]) (.str bx) [pot p0 q0 r0, pot x y z, obT w, obN] = .ok (.str [112, 97, 116, 104]) [pot p0 q0 r0, pot x y z, obT w, obN] := by kernel_rfl
theorem T2_o0_1 (p0 q0 r0 : Int) (x y z : Int) (w bx : List Nat) : told 1 0 (.str []) (.str bx) [pot p0 q0 r0, pot x y z, obT w, obN] = .ok (.str [112, 97, 116, 104]) [pot p0 q0 r0, pot x y z, obT w, obN] := by kernel_rfl
theorem T2_o0_2 (p0 q0 r0 : Int) (x y z : Int) (w bx : List Nat) : told 1 0 (.non) (.str bx) [pot p0 q0 r0, pot x y z, obT w, obN] = .ok (.str [112, 97, 116, 104]) [pot p0 q0 r0, pot x y z, obT w, obN] := by kernel_rfl
theorem T2_o0_3 (p0 q0 r0 : Int) (x y z : Int) (w bx : List Nat) : told 1 0 (.int 0) (.str bx) [pot p0 q0 r0, pot x y z, obT w, obN] = .ok (.str [112, 97, 116, 104]) [pot p0 q0 r0, pot x y z, obT w, obN] := by kernel_rfl
theorem T2_o0_4 (p0 q0 r0 : Int) (x y z : Int) (w bx : List Nat) : told 1 0 (.tup [.str [115, 47, 109, 97, 105, 110]]) (.str bx) [pot p0 q0 r0, pot x y z, obT w, obN] = .ok (.str [112, 97, 116, 104]) [pot p0 q0 r0, pot x y z, obT w, obN] := by kernel_rfl
theorem T2_o0_5 (p0 q0 r0 : Int) (x y z : Int) (w bx : List Nat) : told 1 0 (.str [109, 97, 105, 110]) (.str bx) [pot p0 q0 r0, pot x y z, obT w, obN] = .ok (.str [112, 97, 116, 104]) [pot p0 q0 r0, pot x y z, obT w, obN] := by kernel_rfl
theorem T2_o0_6 (p0 q0 r0 : Int) (x y z : Int) (w bx : List Nat) : told 1 0 (.str [115, 47, 109, 97, 105, 110, 32]) (.str bx) [pot p0 q0 r0, pot x y z, obT w, obN] = .ok (.str [112, 97, 116, 104]) [pot p0 q0 r0, pot x y z, obT w, obN] := by kernel_rfl
theorem T2_o0_7 (p0 q0 r0 : Int) (x y z : Int) (w bx : List Nat) : told 1 0 (.lst [.str [115, 47, 109, 97, 105, 110]]) (.str bx) [pot p0 q0 r0, pot x y z, obT w, obN] = .ok (.str [112, 97, 116, 104]) [pot p0 q0 r0, pot x y z, obT w, obN] := by kernel_rfl
theorem T2_o0_8 (p0 q0 r0 : Int) (x y z : Int) (w bx : List Nat) : told 1 0 (.str [100, 47, 120]) (.str bx) [pot p0 q0 r0, pot x y z, obT w, obN] = .ok (.str [112, 97, 116, 104]) [pot p0 q0 r0, pot x y z, obT w, obN] := by kernel_rfl
theorem T2_h0 (p0 q0 r0 : Int) (x y z : Int) (w : List Nat) : told 1 0 (.str [100, 47, 101]) (.str [104]) [pot p0 q0 r0, pot x y z, obT w, obN] = .ok (.str [112, 97, 116, 104]) [pot p0 q0 r0, pot x y z, obT w, obN] := by kernel_rfl
theorem T2_c0A (p0 q0 r0 : Int) (x y z : Int) : told 1 0 (.str [100, 47, 99]) (.str [104]) [pot p0 q0 r0, pot x y z, obT [97], obN] = .ok (.str []) [pot p0 q0 r0, pot x y z, obT [97], obN] := by kernel_rfl
theorem T2_c0B (p0 q0 r0 : Int) (x y z : Int) : told 1 0 (.str [100, 47, 99]) (.str [104]) [pot p0 q0 r0, pot x y z, obT [98, 99, 100], obN] = .ok (.str []) [pot p0 q0 r0, pot x y z, obT [98, 99, 100], obN] := by kernel_rfl
theorem T2_c0Z (p0 q0 r0 : Int) (x y z : Int) : told 1 0 (.str [100, 47, 99]) (.str [104]) [pot p0 q0 r0, pot x y z, obT [122, 122], obN] = .ok (.str []) [pot p0 q0 r0, pot x y z, obT [122, 122], obN] := by kernel_rfl
theorem T2_m1A (p0 q0 r0 : Int) (x y z : Int) : told 1 1 (.str [115, 47, 109, 97, 105, 110]) (.str [104]) [pot p0 q0 r0, pot x y z, obT [97], obN] = .ok (.str []) [pot p0 q0 r0, pot x y z, obT [97], obN] := by kernel_rfl
theorem T2_m1B (p0 q0 r0 : Int) (x y z : Int) : told 1 1 (.str [115, 47, 109, 97, 105, 110]) (.str [104]) [pot p0 q0 r0, pot x y z, obT [98, 99, 100], obN] = .ok (.str []) [pot p0 q0 r0, pot x y z, obT [98, 99, 100], obN] := by kernel_rfl
theorem T2_m1Z (p0 q0 r0 : Int) (x y z : Int) : told 1 1 (.str [115, 47, 109, 97, 105, 110]) (.str [104]) [pot p0 q0 r0, pot x y z, obT [122, 122], obN] = .ok (.str []) [pot p0 q0 r0, pot x y z, obT [122, 122], obN] := by kernel_rfl
theorem T2_o1_0 (p0 q0 r0 : Int) (x y z : Int) (w bx : List Nat) : told 1 1 (.str [100, 47, 98]) (.str bx) [pot p0 q0 r0, pot x y z, obT w, obN] = .ok (.str [112, 97, 116, 104]) [pot p0 q0 r0, pot x y z, obT w, obN] := by kernel_rfl
theorem T2_o1_1 (p0 q0 r0 : Int) (x y z : Int) (w bx : List Nat) : told 1 1 (.str []) (.str bx) [pot p0 q0 r0, pot x y z, obT w, obN] = .ok (.str [112, 97, 116, 104]) [pot p0 q0 r0, pot x y z, obT w, obN] := by kernel_rfl
theorem T2_o1_2 (p0 q0 r0 : Int) (x y z : Int) (w bx : List Nat) : told 1 1 (.non) (.str bx) [pot p0 q0 r0, pot x y z, obT w, obN] = .ok (.str [112, 97, 116, 104]) [pot p0 q0 r0, pot x y z, obT w, obN] := by kernel_rfl
theorem T2_o1_3 (p0 q0 r0 : Int) (x y z : Int) (w bx : List Nat) : told 1 1 (.int 0) (.str bx) [pot p0 q0 r0, pot x y z, obT w, obN] = .ok (.str [112, 97, 116, 104]) [pot p0 q0 r0, pot x y z, obT w, obN] := by kernel_rfl
theorem T2_o1_4 (p0 q0 r0 : Int) (x y z : Int) (w bx : List Nat) : told 1 1 (.tup [.str [115, 47, 109, 97, 105, 110]]) (.str bx) [pot p0 q0 r0, pot x y z, obT w, obN] = .ok (.str [112, 97, 116, 104]) [pot p0 q0 r0, pot x y z, obT w, obN] := by kernel_rfl
theorem T2_o1_5 (p0 q0 r0 : Int) (x y z : Int) (w bx : List Nat) : told 1 1 (.str [109, 97, 105, 110]) (.str bx) [pot p0 q0 r0, pot x y z, obT w, obN] = .ok (.str [112, 97, 116, 104]) [pot p0 q0 r0, pot x y z, obT w, obN] := by kernel_rfl
theorem T2_o1_6 (p0 q0 r0 : Int) (x y z : Int) (w bx : List Nat) : told 1 1 (.str [115, 47, 109, 97, 105, 110, 32]) (.str bx) [pot p0 q0 r0, pot x y z, obT w, obN] = .ok (.str [112, 97, 116, 104]) [pot p0 q0 r0, pot x y z, obT w, obN] := by kernel_rfl
theorem T2_o1_7 (p0 q0 r0 : Int) (x y z : Int) (w bx : List Nat) : told 1 1 (.lst [.str [115, 47, 109, 97, 105, 110]]) (.str bx) [pot p0 q0 r0, pot x y z, obT w, obN] = .ok (.str [112, 97, 116, 104]) [pot p0 q0 r0, pot x y z, obT w, obN] := by kernel_rfl
theorem T2_o1_8 (p0 q0 r0 : Int) (x y z : Int) (w bx : List Nat) : told 1 1 (.str [100, 47, 120]) (.str bx) [pot p0 q0 r0, pot x y z, obT w, obN] = .ok (.str [112, 97, 116, 104]) [pot p0 q0 r0, pot x y z, obT w, obN] := by kernel_rfl
theorem T2_h1 (p0 q0 r0 : Int) (x y z : Int) (w : List Nat) : told 1 1 (.str [100, 47, 101]) (.str [104]) [pot p0 q0 r0, pot x y z, obT w, obN] = .ok (.str [112, 97, 116, 104]) [pot p0 q0 r0, pot x y z, obT w, obN] := by kernel_rfl
theorem T2_c1A (p0 q0 r0 : Int) (x y z : Int) : told 1 1 (.str [100, 47, 99]) (.str [104]) [pot p0 q0 r0, pot x y z, obT [97], obN] = .ok (.str []) [pot p0 q0 r0, pot x y z, obT [97], obN] := by kernel_rfl
theorem T2_c1B (p0 q0 r0 : Int) (x y z : Int) : told 1 1 (.str [100, 47, 99]) (.str [104]) [pot p0 q0 r0, pot x y z, obT [98, 99, 100], obN] = .ok (.str []) [pot p0 q0 r0, pot x y z, obT [98, 99, 100], obN] := by kernel_rfl
theorem T2_c1Z (p0 q0 r0 : Int) (x y z : Int) : told 1 1 (.str [100, 47, 99]) (.str [104]) [pot p0 q0 r0, pot x y z, obT [122, 122], obN] = .ok (.str []) [pot p0 q0 r0, pot x y z, obT [122, 122], obN] := by kernel_rfl
theorem T2_m2A (p0 q0 r0 : Int) (x y z : Int) : told 1 2 (.str [115, 47, 109, 97, 105, 110]) (.str [104]) [pot p0 q0 r0, pot x y z, obT [97], obN] = .ok (.str []) [pot p0 q0 r0, pot x y z, obT [97], obN] := by kernel_rfl
theorem T2_m2B (p0 q0 r0 : Int) (x y z : Int) : told 1 2 (.str [115, 47, 109, 97, 105, 110]) (.str [104]) [pot p0 q0 r0, pot x y z, obT [98, 99, 100], obN] = .ok (.str []) [pot p0 q0 r0, pot x y z, obT [98, 99, 100], obN] := by kernel_rfl
theorem T2_m2Z (p0 q0 r0 : Int) (x y z : Int) : told 1 2 (.str [115, 47, 109, 97, 105, 110]) (.str [104]) [pot p0 q0 r0, pot x y z, obT [122, 122], obN] = .ok (.str []) [pot p0 q0 r0, pot x y z, obT [122, 122], obN] := by kernel_rfl
theorem T2_o2_0 (p0 q0 r0 : Int) (x y z : Int) (w bx : List Nat) : told 1 2 (.str [100, 47, 98]) (.str bx) [pot p0 q0 r0, pot x y z, obT w, obN] = .ok (.str [112, 97, 116, 104]) [pot p0 q0 r0, pot x y z, obT w, obN] := by kernel_rfl
theorem T2_o2_1 (p0 q0 r0 : Int) (x y z : Int) (w bx : List Nat) : told 1 2 (.str []) (.str bx) [pot p0 q0 r0, pot x y z, obT w, obN] = .ok (.str [112, 97, 116, 104]) [pot p0 q0 r0, pot x y z, obT w, obN] := by kernel_rfl
theorem T2_o2_2 (p0 q0 r0 : Int) (x y z : Int) (w bx : List Nat) : told 1 2 (.non) (.str bx) [pot p0 q0 r0, pot x y z, obT w, obN] = .ok (.str [112, 97, 116, 104]) [pot p0 q0 r0, pot x y z, obT w, obN] := by kernel_rfl
theorem T2_o2_3 (p0 q0 r0 : Int) (x y z : Int) (w bx : List Nat) : told 1 2 (.int 0) (.str bx) [pot p0 q0 r0, pot x y z, obT w, obN] = .ok (.str [112, 97, 116, 104]) [pot p0 q0 r0, pot x y z, obT w, obN] := by kernel_rfl
theorem T2_o2_4 (p0 q0 r0 : Int) (x y z : Int) (w bx : List Nat) : told 1 2 (.tup [.str [115, 47, 109, 97, 105, 110]]) (.str bx) [pot p0 q0 r0, pot x y z, obT w, obN] = .ok (.str [112, 97, 116, 104]) [pot p0 q0 r0, pot x y z, obT w, obN] := by kernel_rfl
theorem T2_o2_5 (p0 q0 r0 : Int) (x y z : Int) (w bx : List Nat) : told 1 2 (.str [109, 97, 105, 110]) (.str bx) [pot p0 q0 r0, pot x y z, obT w, obN] = .ok (.str [112, 97, 116, 104]) [pot p0 q0 r0, pot x y z, obT w, obN] := by kernel_rfl
theorem T2_o2_6 (p0 q0 r0 : Int) (x y z : Int) (w bx : List Nat) : told 1 2 (.str [115, 47, 109, 97, 105, 110, 32]) (.str bx) [pot p0 q0 r0, pot x y z, obT w, obN] = .ok (.str [112, 97, 116, 104]) [pot p0 q0 r0, pot x y z, obT w, obN] := by kernel_rfl
theorem T2_o2_7 (p0 q0 r0 : Int) (x y z : Int) (w bx : List Nat) : told 1 2 (.lst [.str [115, 47, 109, 97, 105, 110]]) (.str bx) [pot p0 q0 r0, pot x y z, obT w, obN] = .ok (.str [112, 97, 116, 104]) [pot p0 q0 r0, pot x y z, obT w, obN] := by kernel_rfl
theorem T2_o2_8 (p0 q0 r0 : Int) (x y z : Int) (w bx : List Nat) : told 1 2 (.str [100, 47, 120]) (.str bx) [pot p0 q0 r0, pot x y z, obT w, obN] = .ok (.str [112, 97, 116, 104]) [pot p0 q0 r0, pot x y z, obT w, obN] := by kernel_rfl
theorem T2_h2 (p0 q0 r0 : Int) (x y z : Int) (w : List Nat) : told 1 2 (.str [100, 47, 101]) (.str [104]) [pot p0 q0 r0, pot x y z, obT w, obN] = .ok (.str [112, 97, 116, 104]) [pot p0 q0 r0, pot x y z, obT w, obN] := by kernel_rfl
theorem T2_c2A (p0 q0 r0 : Int) (x y z : Int) : told 1 2 (.str [100, 47, 99]) (.str [104]) [pot p0 q0 r0, pot x y z, obT [97], obN] = .ok (.str []) [pot p0 q0 r0, pot x y z, obT [97], obN] := by kernel_rfl
theorem T2_c2B (p0 q0 r0 : Int) (x y z : Int) : told 1 2 (.str [100, 47, 99]) (.str [104]) [pot p0 q0 r0, pot x y z, obT [98, 99, 100], obN] = .ok (.str []) [pot p0 q0 r0, pot x y z, obT [98, 99, 100], obN] := by kernel_rfl
theorem T2_c2Z (p0 q0 r0 : Int) (x y z : Int) : told 1 2 (.str [100, 47, 99]) (.str [104]) [pot p0 q0 r0, pot x y z, obT [122, 122], obN] = .ok (.str []) [pot p0 q0 r0, pot x y z, obT [122, 122], obN] := by kernel_rfl
theorem T2_m3A (p0 q0 r0 : Int) (x y z : Int) : told 1 3 (.str [115, 47, 109, 97, 105, 110]) (.str [104]) [pot p0 q0 r0, pot x y z, obT [97], obN] = .ok (.str []) [pot p0 q0 r0, pot x y z, obT [97], obN] := by kernel_rfl
theorem T2_m3B (p0 q0 r0 : Int) (x y z : Int) : told 1 3 (.str [115, 47, 109, 97, 105, 110]) (.str [104]) [pot p0 q0 r0, pot x y z, obT [98, 99, 100], obN] = .ok (.str []) [pot p0 q0 r0, pot x y z, obT [98, 99, 100], obN] := by kernel_rfl
theorem T2_m3Z (p0 q0 r0 : Int) (x y z : Int) : told 1 3 (.str [115, 47, 109, 97, 105, 110]) (.str [104]) [pot p0 q0 r0, pot x y z, obT [122, 122], obN] = .ok (.str []) [pot p0 q0 r0, pot x y z, obT [122, 122], obN] := by kernel_rfl
theorem T2_o3_0 (p0 q0 r0 : Int) (x y z : Int) (w bx : List Nat) : told 1 3 (.str [100, 47, 98]) (.str bx) [pot p0 q0 r0, pot x y z, obT w, obN] = .ok (.str [112, 97, 116, 104]) [pot p0 q0 r0, pot x y z, obT w, obN] := by kernel_rfl
theorem T2_o3_1 (p0 q0 r0 : Int) (x y z : Int) (w bx : List Nat) : told 1 3 (.str []) (.str bx) [pot p0 q0 r0, pot x y z, obT w, obN] = .ok (.str [112, 97, 116, 104]) [pot p0 q0 r0, pot x y z, obT w, obN] := by kernel_rfl
theorem T2_o3_2 (p0 q0 r0 : Int) (x y z : Int) (w bx : List Nat) : told 1 3 (.non) (.str bx) [pot p0 q0 r0, pot x y z, obT w, obN] = .ok (.str [112, 97, 116, 104]) [pot p0 q0 r0, pot x y z, obT w, obN] := by kernel_rfl
theorem T2_o3_3 (p0 q0 r0 : Int) (x y z : Int) (w bx : List Nat) : told 1 3 (.int 0) (.str bx) [pot p0 q0 r0, pot x y z, obT w, obN] = .ok (.str [112, 97, 116, 104]) [pot p0 q0 r0, pot x y z, obT w, obN] := by kernel_rfl
theorem T2_o3_4 (p0 q0 r0 : Int) (x y z : Int) (w bx : List Nat) : told 1 3 (.tup [.str [115, 47, 109, 97, 105, 110]]) (.str bx) [pot p0 q0 r0, pot x y z, obT w, obN] = .ok (.str [112, 97, 116, 104]) [pot p0 q0 r0, pot x y z, obT w, obN] := by kernel_rfl
theorem T2_o3_5 (p0 q0 r0 : Int) (x y z : Int) (w bx : List Nat) : told 1 3 (.str [109, 97, 105, 110]) (.str bx) [pot p0 q0 r0, pot x y z, obT w, obN] = .ok (.str [112, 97, 116, 104]) [pot p0 q0 r0, pot x y z, obT w, obN] := by kernel_rfl
theorem T2_o3_6 (p0 q0 r0 : Int) (x y z : Int) (w bx : List Nat) : told 1 3 (.str [115, 47, 109, 97, 105, 110, 32]) (.str bx) [pot p0 q0 r0, pot x y z, obT w, obN] = .ok (.str [112, 97, 116, 104]) [pot p0 q0 r0, pot x y z, obT w, obN] := by kernel_rfl
theorem T2_o3_7 (p0 q0 r0 : Int) (x y z : Int) (w bx : List Nat) : told 1 3 (.lst [.str [115, 47, 109, 97, 105, 110]]) (.str bx) [pot p0 q0 r0, pot x y z, obT w, obN] = .ok (.str [112, 97, 116, 104]) [pot p0 q0 r0, pot x y z, obT w, obN] := by kernel_rfl
theorem T2_o3_8 (p0 q0 r0 : Int) (x y z : Int) (w bx : List Nat) : told 1 3 (.str [100, 47, 120]) (.str bx) [pot p0 q0 r0, pot x y z, obT w, obN] = .ok (.str [112, 97, 116, 104]) [pot p0 q0 r0, pot x y z, obT w, obN] := by kernel_rfl
theorem T2_h3 (p0 q0 r0 : Int) (x y z : Int) (w : List Nat) : told 1 3 (.str [100, 47, 101]) (.str [104]) [pot p0 q0 r0, pot x y z, obT w, obN] = .ok (.str [112, 97, 116, 104]) [pot p0 q0 r0, pot x y z, obT w, obN] := by kernel_rfl
theorem T2_g3 (p0 q0 r0 : Int) (x y z : Int) (w : List Nat) : told 1 3 (.str [100, 47, 99]) (.str [104]) [pot p0 q0 r0, pot x y z, obT w, obN] = .ok (.str [112, 97, 116, 104]) [pot p0 q0 r0, pot x y z, obT w, obN] := by kernel_rfl
theorem T2_m4A (p0 q0 r0 : Int) (x y z : Int) : told 1 4 (.str [115, 47, 109, 97, 105, 110]) (.str [104]) [pot p0 q0 r0, pot x y z, obT [97], obN] = .ok (.str []) [pot p0 q0 r0, pot x y z, obT [97], obN] := by kernel_rfl
theorem T2_m4B (p0 q0 r0 : Int) (x y z : Int) : told 1 4 (.str [115, 47, 109, 97, 105, 110]) (.str [104]) [pot p0 q0 r0, pot x y z, obT [98, 99, 100], obN] = .ok (.str []) [pot p0 q0 r0, pot x y z, obT [98, 99, 100], obN] := by kernel_rfl
theorem T2_m4Z (p0 q0 r0 : Int) (x y z : Int) : told 1 4 (.str [115, 47, 109, 97, 105, 110]) (.str [104]) [pot p0 q0 r0, pot x y z, obT [122, 122], obN] = .ok (.str []) [pot p0 q0 r0, pot x y z, obT [122, 122], obN] := by kernel_rfl
theorem T2_o4_0 (p0 q0 r0 : Int) (x y z : Int) (w bx : List Nat) : told 1 4 (.str [100, 47, 98]) (.str bx) [pot p0 q0 r0, pot x y z, obT w, obN] = .ok (.str [112, 97, 116, 104]) [pot p0 q0 r0, pot x y z, obT w, obN] := by kernel_rfl
theorem T2_o4_1 (p0 q0 r0 : Int) (x y z : Int) (w bx : List Nat) : told 1 4 (.str []) (.str bx) [pot p0 q0 r0, pot x y z, obT w, obN] = .ok (.str [112, 97, 116, 104]) [pot p0 q0 r0, pot x y z, obT w, obN] := by kernel_rfl
theorem T2_o4_2 (p0 q0 r0 : Int) (x y z : Int) (w bx : List Nat) : told 1 4 (.non) (.str bx) [pot p0 q0 r0, pot x y z, obT w, obN] = .ok (.str [112, 97, 116, 104]) [pot p0 q0 r0, pot x y z, obT w, obN] := by kernel_rfl
theorem T2_o4_3 (p0 q0 r0 : Int) (x y z : Int) (w bx : List Nat) : told 1 4 (.int 0) (.str bx) [pot p0 q0 r0, pot x y z, obT w, obN] = .ok (.str [112, 97, 116, 104]) [pot p0 q0 r0, pot x y z, obT w, obN] := by kernel_rfl
theorem T2_o4_4 (p0 q0 r0 : Int) (x y z : Int) (w bx : List Nat) : told 1 4 (.tup [.str [115, 47, 109, 97, 105, 110]]) (.str bx) [pot p0 q0 r0, pot x y z, obT w, obN] = .ok (.str [112, 97, 116, 104]) [pot p0 q0 r0, pot x y z, obT w, obN] := by kernel_rfl
theorem T2_o4_5 (p0 q0 r0 : Int) (x y z : Int) (w bx : List Nat) : told 1 4 (.str [109, 97, 105, 110]) (.str bx) [pot p0 q0 r0, pot x y z, obT w, obN] = .ok (.str [112, 97, 116, 104]) [pot p0 q0 r0, pot x y z, obT w, obN] := by kernel_rfl
theorem T2_o4_6 (p0 q0 r0 : Int) (x y z : Int) (w bx : List Nat) : told 1 4 (.str [115, 47, 109, 97, 105, 110, 32]) (.str bx) [pot p0 q0 r0, pot x y z, obT w, obN] = .ok (.str [112, 97, 116, 104]) [pot p0 q0 r0, pot x y z, obT w, obN] := by kernel_rfl
theorem T2_o4_7 (p0 q0 r0 : Int) (x y z : Int) (w bx : List Nat) : told 1 4 (.lst [.str [115, 47, 109, 97, 105, 110]]) (.str bx) [pot p0 q0 r0, pot x y z, obT w, obN] = .ok (.str [112, 97, 116, 104]) [pot p0 q0 r0, pot x y z, obT w, obN] := by kernel_rfl
theorem T2_o4_8 (p0 q0 r0 : Int) (x y z : Int) (w bx : List Nat) : told 1 4 (.str [100, 47, 120]) (.str bx) [pot p0 q0 r0, pot x y z, obT w, obN] = .ok (.str [112, 97, 116, 104]) [pot p0 q0 r0, pot x y z, obT w, obN] := by kernel_rfl
theorem T2_h4 (p0 q0 r0 : Int) (x y z : Int) (w : List Nat) : told 1 4 (.str [100, 47, 101]) (.str [104]) [pot p0 q0 r0, pot x y z, obT w, obN] = .ok (.str [112, 97, 116, 104]) [pot p0 q0 r0, pot x y z, obT w, obN] := by kernel_rfl
theorem T2_g4 (p0 q0 r0 : Int) (x y z : Int) (w : List Nat) : told 1 4 (.str [100, 47, 99]) (.str [104]) [pot p0 q0 r0, pot x y z, obT w, obN] = .ok (.str [112, 97, 116, 104]) [pot p0 q0 r0, pot x y z, obT w, obN] := by kernel_rfl
theorem T2_m5A (p0 q0 r0 : Int) (x y z : Int) : told 1 5 (.str [115, 47, 109, 97, 105, 110]) (.str [104]) [pot p0 q0 r0, pot x y z, obT [97], obN] = .ok (.str []) [pot p0 q0 r0, pot x y z, obT [97], obN] := by kernel_rfl
theorem T2_m5B (p0 q0 r0 : Int) (x y z : Int) : told 1 5 (.str [115, 47, 109, 97, 105, 110]) (.str [104]) [pot p0 q0 r0, pot x y z, obT [98, 99, 100], obN] = .ok (.str []) [pot p0 q0 r0, pot x y z, obT [98, 99, 100], obN] := by kernel_rfl
theorem T2_m5Z (p0 q0 r0 : Int) (x y z : Int) : told 1 5 (.str [115, 47, 109, 97, 105, 110]) (.str [104]) [pot p0 q0 r0, pot x y z, obT [122, 122], obN] = .ok (.str []) [pot p0 q0 r0, pot x y z, obT [122, 122], obN] := by kernel_rfl
theorem T2_o5_0 (p0 q0 r0 : Int) (x y z : Int) (w bx : List Nat) : told 1 5 (.str [100, 47, 98]) (.str bx) [pot p0 q0 r0, pot x y z, obT w, obN] = .ok (.str [112, 97, 116, 104]) [pot p0 q0 r0, pot x y z, obT w, obN] := by kernel_rfl
theorem T2_o5_1 (p0 q0 r0 : Int) (x y z : Int) (w bx : List Nat) : told 1 5 (.str []) (.str bx) [pot p0 q0 r0, pot x y z, obT w, obN] = .ok (.str [112, 97, 116, 104]) [pot p0 q0 r0, pot x y z, obT w, obN] := by kernel_rfl
theorem T2_o5_2 (p0 q0 r0 : Int) (x y z : Int) (w bx : List Nat) : told 1 5 (.non) (.str bx) [pot p0 q0 r0, pot x y z, obT w, obN] = .ok (.str [112, 97, 116, 104]) [pot p0 q0 r0, pot x y z, obT w, obN] := by kernel_rfl
theorem T2_o5_3 (p0 q0 r0 : Int) (x y z : Int) (w bx : List Nat) : told 1 5 (.int 0) (.str bx) [pot p0 q0 r0, pot x y z, obT w, obN] = .ok (.str [112, 97, 116, 104]) [pot p0 q0 r0, pot x y z, obT w, obN] := by kernel_rfl
theorem T2_o5_4 (p0 q0 r0 : Int) (x y z : Int) (w bx : List Nat) : told 1 5 (.tup [.str [115, 47, 109, 97, 105, 110]]) (.str bx) [pot p0 q0 r0, pot x y z, obT w, obN] = .ok (.str [112, 97, 116, 104]) [pot p0 q0 r0, pot x y z, obT w, obN] := by kernel_rfl
theorem T2_o5_5 (p0 q0 r0 : Int) (x y z : Int) (w bx : List Nat) : told 1 5 (.str [109, 97, 105, 110]) (.str bx) [pot p0 q0 r0, pot x y z, obT w, obN] = .ok (.str [112, 97, 116, 104]) [pot p0 q0 r0, pot x y z, obT w, obN] := by kernel_rfl
theorem T2_o5_6 (p0 q0 r0 : Int) (x y z : Int) (w bx : List Nat) : told 1 5 (.str [115, 47, 109, 97, 105, 110, 32]) (.str bx) [pot p0 q0 r0, pot x y z, obT w, obN] = .ok (.str [112, 97, 116, 104]) [pot p0 q0 r0, pot x y z, obT w, obN] := by kernel_rfl
theorem T2_o5_7 (p0 q0 r0 : Int) (x y z : Int) (w bx : List Nat) : told 1 5 (.lst [.str [115, 47, 109, 97, 105, 110]]) (.str bx) [pot p0 q0 r0, pot x y z, obT w, obN] = .ok (.str [112, 97, 116, 104]) [pot p0 q0 r0, pot x y z, obT w, obN] := by kernel_rfl
theorem T2_o5_8 (p0 q0 r0 : Int) (x y z : Int) (w bx : List Nat) : told 1 5 (.str [100, 47, 120]) (.str bx) [pot p0 q0 r0, pot x y z, obT w, obN] = .ok (.str [112, 97, 116, 104]) [pot p0 q0 r0, pot x y z, obT w, obN] := by kernel_rfl
theorem T2_h5 (p0 q0 r0 : Int) (x y z : Int) (w : List Nat) : told 1 5 (.str [100, 47, 101]) (.str [104]) [pot p0 q0 r0, pot x y z, obT w, obN] = .ok (.str [112, 97, 116, 104]) [pot p0 q0 r0, pot x y z, obT w, obN] := by kernel_rfl
theorem T2_c5A (p0 q0 r0 : Int) (x y z : Int) : told 1 5 (.str [100, 47, 99]) (.str [104]) [pot p0 q0 r0, pot x y z, obT [97], obN] = .ok (.str []) [pot p0 q0 r0, pot x y z, obT [97], obN] := by kernel_rfl
theorem T2_c5B (p0 q0 r0 : Int) (x y z : Int) : told 1 5 (.str [100, 47, 99]) (.str [104]) [pot p0 q0 r0, pot x y z, obT [98, 99, 100], obN] = .ok (.str []) [pot p0 q0 r0, pot x y z, obT [98, 99, 100], obN] := by kernel_rfl
theorem T2_c5Z (p0 q0 r0 : Int) (x y z : Int) : told 1 5 (.str [100, 47, 99]) (.str [104]) [pot p0 q0 r0, pot x y z, obT [122, 122], obN] = .ok (.str []) [pot p0 q0 r0, pot x y z, obT [122, 122], obN] := by kernel_rfl
theorem T2_s0 (p0 q0 r0 : Int) (x y z : Int) (w : List Nat) : told 1 5 (.str [115, 47, 109, 97, 105, 110]) (.str []) [pot p0 q0 r0, pot x y z, obT w, obN] = .ok (.str [104, 111, 115, 116]) [pot p0 q0 r0, pot x y z, obT w, obN] := by kernel_rfl
theorem T2_s1 (p0 q0 r0 : Int) (x y z : Int) (w : List Nat) : told 1 5 (.str [115, 47, 109, 97, 105, 110]) (.non) [pot p0 q0 r0, pot x y z, obT w, obN] = .ok (.str [104, 111, 115, 116]) [pot p0 q0 r0, pot x y z, obT w, obN] := by kernel_rfl
theorem T2_s2 (p0 q0 r0 : Int) (x y z : Int) (w : List Nat) : told 1 5 (.str [115, 47, 109, 97, 105, 110]) (.str [72]) [pot p0 q0 r0, pot x y z, obT w, obN] = .ok (.str [104, 111, 115, 116]) [pot p0 q0 r0, pot x y z, obT w, obN] := by kernel_rfl
theorem T2_s3 (p0 q0 r0 : Int) (x y z : Int) (w : List Nat) : told 1 5 (.str [115, 47, 109, 97, 105, 110]) (.int 0) [pot p0 q0 r0, pot x y z, obT w, obN] = .ok (.str [104, 111, 115, 116]) [pot p0 q0 r0, pot x y z, obT w, obN] := by kernel_rfl
theorem T2_s4 (p0 q0 r0 : Int) (x y z : Int) (w : List Nat) : told 1 5 (.str [115, 47, 109, 97, 105, 110]) (.bl true) [pot p0 q0 r0, pot x y z, obT w, obN] = .ok (.str [104, 111, 115, 116]) [pot p0 q0 r0, pot x y z, obT w, obN] := by kernel_rfl
theorem T2_s5 (p0 q0 r0 : Int) (x y z : Int) (w : List Nat) : told 1 5 (.str [115, 47, 109, 97, 105, 110]) (.tup [.str [104]]) [pot p0 q0 r0, pot x y z, obT w, obN] = .ok (.str [104, 111, 115, 116]) [pot p0 q0 r0, pot x y z, obT w, obN] := by kernel_rfl
theorem T2_s6 (p0 q0 r0 : Int) (x y z : Int) (w : List Nat) : told 1 5 (.str [115, 47, 109, 97, 105, 110]) (.str [104, 49]) [pot p0 q0 r0, pot x y z, obT w, obN] = .ok (.str [104, 111, 115, 116]) [pot p0 q0 r0, pot x y z, obT w, obN] := by kernel_rfl
theorem T2_s7 (p0 q0 r0 : Int) (x y z : Int) (w : List Nat) : told 1 5 (.str [115, 47, 109, 97, 105, 110]) (.lst [.str [104]]) [pot p0 q0 r0, pot x y z, obT w, obN] = .ok (.str [104, 111, 115, 116]) [pot p0 q0 r0, pot x y z, obT w, obN] := by kernel_rfl
theorem T2_fA (p0 q0 r0 : Int) (x y z : Int) : callN G0 38 "told_apart" [.ref 2, .ref 3, sMain] 2 [pot p0 q0 r0, pot x y z, obT [97], obN] = .ok (.tup [.str [97], .str [107]]) [pot p0 q0 r0, pot x y z, obT [97], obN] := by kernel_rfl
theorem T2_fB (p0 q0 r0 : Int) (x y z : Int) : callN G0 38 "told_apart" [.ref 2, .ref 3, sMain] 2 [pot p0 q0 r0, pot x y z, obT [98, 99, 100], obN] = .ok (.tup [.str [97], .str [107]]) [pot p0 q0 r0, pot x y z, obT [98, 99, 100], obN] := by kernel_rfl
theorem T2_fZ (p0 q0 r0 : Int) (x y z : Int) : callN G0 38 "told_apart" [.ref 2, .ref 3, sMain] 2 [pot p0 q0 r0, pot x y z, obT [122, 122], obN] = .ok (.tup [.str [97], .str [107]]) [pot p0 q0 r0, pot x y z, obT [122, 122], obN] := by kernel_rfl
theorem T2_main (p0 q0 r0 : Int) (x y z : Int) (way : Int) (w : List Nat) (hw : w = [97] ∨ w = [98, 99, 100] ∨ w = [122, 122]) (h0 : 0 ≤ way) (h6 : way < 6) : told 1 way sMain (.str [104]) [pot p0 q0 r0, pot x y z, obT w, obN] = .ok (.str []) [pot p0 q0 r0, pot x y z, obT w, obN] := by
  obtain rfl | rfl | rfl | rfl | rfl | rfl : way = 0 ∨ way = 1 ∨ way = 2 ∨ way = 3 ∨ way = 4 ∨ way = 5 := by omega
  · rcases hw with rfl | rfl | rfl
    · exact T2_m0A p0 q0 r0 x y z
    · exact T2_m0B p0 q0 r0 x y z
    · exact T2_m0Z p0 q0 r0 x y z
  · rcases hw with rfl | rfl | rfl
    · exact T2_m1A p0 q0 r0 x y z
    · exact T2_m1B p0 q0 r0 x y z
    · exact T2_m1Z p0 q0 r0 x y z
  · rcases hw with rfl | rfl | rfl
    · exact T2_m2A p0 q0 r0 x y z
    · exact T2_m2B p0 q0 r0 x y z
    · exact T2_m2Z p0 q0 r0 x y z
  · rcases hw with rfl | rfl | rfl
    · exact T2_m3A p0 q0 r0 x y z
    · exact T2_m3B p0 q0 r0 x y z
    · exact T2_m3Z p0 q0 r0 x y z
  · rcases hw with rfl | rfl | rfl
    · exact T2_m4A p0 q0 r0 x y z
    · exact T2_m4B p0 q0 r0 x y z
    · exact T2_m4Z p0 q0 r0 x y z
  · rcases hw with rfl | rfl | rfl
    · exact T2_m5A p0 q0 r0 x y z
    · exact T2_m5B p0 q0 r0 x y z
    · exact T2_m5Z p0 q0 r0 x y z
theorem T2_odd (p0 q0 r0 : Int) (x y z : Int) (way v : Int) (w bx : List Nat) (h0 : 0 ≤ way) (h6 : way < 6) (g0 : 0 ≤ v) (g9 : v < 9) : ∃ u, atOf odds v = some u ∧ told 1 way u (.str bx) [pot p0 q0 r0, pot x y z, obT w, obN] = .ok sPath [pot p0 q0 r0, pot x y z, obT w, obN] := by
  obtain rfl | rfl | rfl | rfl | rfl | rfl : way = 0 ∨ way = 1 ∨ way = 2 ∨ way = 3 ∨ way = 4 ∨ way = 5 := by omega
  · obtain rfl | rfl | rfl | rfl | rfl | rfl | rfl | rfl | rfl : v = 0 ∨ v = 1 ∨ v = 2 ∨ v = 3 ∨ v = 4 ∨ v = 5 ∨ v = 6 ∨ v = 7 ∨ v = 8 := by omega
    · exact ⟨_, rfl, T2_o0_0 p0 q0 r0 x y z w bx⟩
    · exact ⟨_, rfl, T2_o0_1 p0 q0 r0 x y z w bx⟩
    · exact ⟨_, rfl, T2_o0_2 p0 q0 r0 x y z w bx⟩
    · exact ⟨_, rfl, T2_o0_3 p0 q0 r0 x y z w bx⟩
    · exact ⟨_, rfl, T2_o0_4 p0 q0 r0 x y z w bx⟩
    · exact ⟨_, rfl, T2_o0_5 p0 q0 r0 x y z w bx⟩
    · exact ⟨_, rfl, T2_o0_6 p0 q0 r0 x y z w bx⟩
    · exact ⟨_, rfl, T2_o0_7 p0 q0 r0 x y z w bx⟩
    · exact ⟨_, rfl, T2_o0_8 p0 q0 r0 x y z w bx⟩
  · obtain rfl | rfl | rfl | rfl | rfl | rfl | rfl | rfl | rfl : v = 0 ∨ v = 1 ∨ v = 2 ∨ v = 3 ∨ v = 4 ∨ v = 5 ∨ v = 6 ∨ v = 7 ∨ v = 8 := by omega
    · exact ⟨_, rfl, T2_o1_0 p0 q0 r0 x y z w bx⟩
    · exact ⟨_, rfl, T2_o1_1 p0 q0 r0 x y z w bx⟩
    · exact ⟨_, rfl, T2_o1_2 p0 q0 r0 x y z w bx⟩
    · exact ⟨_, rfl, T2_o1_3 p0 q0 r0 x y z w bx⟩
    · exact ⟨_, rfl, T2_o1_4 p0 q0 r0 x y z w bx⟩
    · exact ⟨_, rfl, T2_o1_5 p0 q0 r0 x y z w bx⟩
    · exact ⟨_, rfl, T2_o1_6 p0 q0 r0 x y z w bx⟩
    · exact ⟨_, rfl, T2_o1_7 p0 q0 r0 x y z w bx⟩
    · exact ⟨_, rfl, T2_o1_8 p0 q0 r0 x y z w bx⟩
  · obtain rfl | rfl | rfl | rfl | rfl | rfl | rfl | rfl | rfl : v = 0 ∨ v = 1 ∨ v = 2 ∨ v = 3 ∨ v = 4 ∨ v = 5 ∨ v = 6 ∨ v = 7 ∨ v = 8 := by omega
    · exact ⟨_, rfl, T2_o2_0 p0 q0 r0 x y z w bx⟩
    · exact ⟨_, rfl, T2_o2_1 p0 q0 r0 x y z w bx⟩
    · exact ⟨_, rfl, T2_o2_2 p0 q0 r0 x y z w bx⟩
    · exact ⟨_, rfl, T2_o2_3 p0 q0 r0 x y z w bx⟩
    · exact ⟨_, rfl, T2_o2_4 p0 q0 r0 x y z w bx⟩
    · exact ⟨_, rfl, T2_o2_5 p0 q0 r0 x y z w bx⟩
    · exact ⟨_, rfl, T2_o2_6 p0 q0 r0 x y z w bx⟩
    · exact ⟨_, rfl, T2_o2_7 p0 q0 r0 x y z w bx⟩
    · exact ⟨_, rfl, T2_o2_8 p0 q0 r0 x y z w bx⟩
  · obtain rfl | rfl | rfl | rfl | rfl | rfl | rfl | rfl | rfl : v = 0 ∨ v = 1 ∨ v = 2 ∨ v = 3 ∨ v = 4 ∨ v = 5 ∨ v = 6 ∨ v = 7 ∨ v = 8 := by omega
    · exact ⟨_, rfl, T2_o3_0 p0 q0 r0 x y z w bx⟩
    · exact ⟨_, rfl, T2_o3_1 p0 q0 r0 x y z w bx⟩
    · exact ⟨_, rfl, T2_o3_2 p0 q0 r0 x y z w bx⟩
    · exact ⟨_, rfl, T2_o3_3 p0 q0 r0 x y z w bx⟩
    · exact ⟨_, rfl, T2_o3_4 p0 q0 r0 x y z w bx⟩
    · exact ⟨_, rfl, T2_o3_5 p0 q0 r0 x y z w bx⟩
    · exact ⟨_, rfl, T2_o3_6 p0 q0 r0 x y z w bx⟩
    · exact ⟨_, rfl, T2_o3_7 p0 q0 r0 x y z w bx⟩
    · exact ⟨_, rfl, T2_o3_8 p0 q0 r0 x y z w bx⟩
  · obtain rfl | rfl | rfl | rfl | rfl | rfl | rfl | rfl | rfl : v = 0 ∨ v = 1 ∨ v = 2 ∨ v = 3 ∨ v = 4 ∨ v = 5 ∨ v = 6 ∨ v = 7 ∨ v = 8 := by omega
    · exact ⟨_, rfl, T2_o4_0 p0 q0 r0 x y z w bx⟩
    · exact ⟨_, rfl, T2_o4_1 p0 q0 r0 x y z w bx⟩
    · exact ⟨_, rfl, T2_o4_2 p0 q0 r0 x y z w bx⟩
    · exact ⟨_, rfl, T2_o4_3 p0 q0 r0 x y z w bx⟩
    · exact ⟨_, rfl, T2_o4_4 p0 q0 r0 x y z w bx⟩
    · exact ⟨_, rfl, T2_o4_5 p0 q0 r0 x y z w bx⟩
    · exact ⟨_, rfl, T2_o4_6 p0 q0 r0 x y z w bx⟩
    · exact ⟨_, rfl, T2_o4_7 p0 q0 r0 x y z w bx⟩
    · exact ⟨_, rfl, T2_o4_8 p0 q0 r0 x y z w bx⟩
  · obtain rfl | rfl | rfl | rfl | rfl | rfl | rfl | rfl | rfl : v = 0 ∨ v = 1 ∨ v = 2 ∨ v = 3 ∨ v = 4 ∨ v = 5 ∨ v = 6 ∨ v = 7 ∨ v = 8 := by omega
    · exact ⟨_, rfl, T2_o5_0 p0 q0 r0 x y z w bx⟩
    · exact ⟨_, rfl, T2_o5_1 p0 q0 r0 x y z w bx⟩
    · exact ⟨_, rfl, T2_o5_2 p0 q0 r0 x y z w bx⟩
    · exact ⟨_, rfl, T2_o5_3 p0 q0 r0 x y z w bx⟩
    · exact ⟨_, rfl, T2_o5_4 p0 q0 r0 x y z w bx⟩
    · exact ⟨_, rfl, T2_o5_5 p0 q0 r0 x y z w bx⟩
    · exact ⟨_, rfl, T2_o5_6 p0 q0 r0 x y z w bx⟩
    · exact ⟨_, rfl, T2_o5_7 p0 q0 r0 x y z w bx⟩
    · exact ⟨_, rfl, T2_o5_8 p0 q0 r0 x y z w bx⟩
theorem T2_half (p0 q0 r0 : Int) (x y z : Int) (way v : Int) (w : List Nat) (h0 : 0 ≤ way) (h6 : way < 6) (g0 : 0 ≤ v) (g2 : v < 2) (h : (way = 3 ∨ way = 4) ∨ v = 1) : ∃ u, atOf halves v = some u ∧ told 1 way u (.str [104]) [pot p0 q0 r0, pot x y z, obT w, obN] = .ok sPath [pot p0 q0 r0, pot x y z, obT w, obN] := by
  by_cases hv : v = 1
  · subst hv
    obtain rfl | rfl | rfl | rfl | rfl | rfl : way = 0 ∨ way = 1 ∨ way = 2 ∨ way = 3 ∨ way = 4 ∨ way = 5 := by omega
    · exact ⟨_, rfl, T2_h0 p0 q0 r0 x y z w⟩
    · exact ⟨_, rfl, T2_h1 p0 q0 r0 x y z w⟩
    · exact ⟨_, rfl, T2_h2 p0 q0 r0 x y z w⟩
    · exact ⟨_, rfl, T2_h3 p0 q0 r0 x y z w⟩
    · exact ⟨_, rfl, T2_h4 p0 q0 r0 x y z w⟩
    · exact ⟨_, rfl, T2_h5 p0 q0 r0 x y z w⟩
  · obtain rfl : v = 0 := by omega
    rcases h.resolve_right hv with rfl | rfl
    · exact ⟨_, rfl, T2_g3 p0 q0 r0 x y z w⟩
    · exact ⟨_, rfl, T2_g4 p0 q0 r0 x y z w⟩
theorem T2_halfC (p0 q0 r0 : Int) (x y z : Int) (way : Int) (w : List Nat) (hw : w = [97] ∨ w = [98, 99, 100] ∨ w = [122, 122]) (h0 : 0 ≤ way) (h6 : way < 6) (h : ¬ (way = 3 ∨ way = 4)) : told 1 way (.str [100, 47, 99]) (.str [104]) [pot p0 q0 r0, pot x y z, obT w, obN] = .ok (.str []) [pot p0 q0 r0, pot x y z, obT w, obN] := by
  obtain rfl | rfl | rfl | rfl : way = 0 ∨ way = 1 ∨ way = 2 ∨ way = 5 := by omega
  · rcases hw with rfl | rfl | rfl
    · exact T2_c0A p0 q0 r0 x y z
    · exact T2_c0B p0 q0 r0 x y z
    · exact T2_c0Z p0 q0 r0 x y z
  · rcases hw with rfl | rfl | rfl
    · exact T2_c1A p0 q0 r0 x y z
    · exact T2_c1B p0 q0 r0 x y z
    · exact T2_c1Z p0 q0 r0 x y z
  · rcases hw with rfl | rfl | rfl
    · exact T2_c2A p0 q0 r0 x y z
    · exact T2_c2B p0 q0 r0 x y z
    · exact T2_c2Z p0 q0 r0 x y z
  · rcases hw with rfl | rfl | rfl
    · exact T2_c5A p0 q0 r0 x y z
    · exact T2_c5B p0 q0 r0 x y z
    · exact T2_c5Z p0 q0 r0 x y z
theorem T2_str (p0 q0 r0 : Int) (x y z : Int) (v : Int) (w : List Nat) (g0 : 0 ≤ v) (g8 : v < 8) : ∃ u, atOf stranges v = some u ∧ told 1 5 sMain u [pot p0 q0 r0, pot x y z, obT w, obN] = .ok (.str [104, 111, 115, 116]) [pot p0 q0 r0, pot x y z, obT w, obN] := by
  obtain rfl | rfl | rfl | rfl | rfl | rfl | rfl | rfl : v = 0 ∨ v = 1 ∨ v = 2 ∨ v = 3 ∨ v = 4 ∨ v = 5 ∨ v = 6 ∨ v = 7 := by omega
  · exact ⟨_, rfl, T2_s0 p0 q0 r0 x y z w⟩
  · exact ⟨_, rfl, T2_s1 p0 q0 r0 x y z w⟩
  · exact ⟨_, rfl, T2_s2 p0 q0 r0 x y z w⟩
  · exact ⟨_, rfl, T2_s3 p0 q0 r0 x y z w⟩
  · exact ⟨_, rfl, T2_s4 p0 q0 r0 x y z w⟩
  · exact ⟨_, rfl, T2_s5 p0 q0 r0 x y z w⟩
  · exact ⟨_, rfl, T2_s6 p0 q0 r0 x y z w⟩
  · exact ⟨_, rfl, T2_s7 p0 q0 r0 x y z w⟩
theorem T2_F (p0 q0 r0 : Int) (y : Int) (w : List Nat) (hw : w = [97] ∨ w = [98, 99, 100] ∨ w = [122, 122]) : ∃ M C, F 1 y w (fun x z => [pot p0 q0 r0, pot x y z]) M C := by
  refine ⟨fun x z => [pot p0 q0 r0, pot x y z, obT w], fun x z => [pot p0 q0 r0, pot x y z, obT w, obN], fun _ _ => rfl, fun _ _ => rfl, fun _ _ _ _ => rfl, fun _ _ => rfl, fun _ _ _ _ => rfl, fun _ _ => rfl, fun x z => ?_, fun x z => T2_t2 p0 q0 r0 x y z w, fun x z way h0 h6 => T2_main p0 q0 r0 x y z way w hw h0 h6, fun x z way v bx h0 h6 g0 g9 => T2_odd p0 q0 r0 x y z way v w bx h0 h6 g0 g9, fun x z way v h0 h6 g0 g2 h => T2_half p0 q0 r0 x y z way v w h0 h6 g0 g2 h, fun x z way h0 h6 h => T2_halfC p0 q0 r0 x y z way w hw h0 h6 h, fun x z v g0 g8 => T2_str p0 q0 r0 x y z v w g0 g8, fun x z => ?_, hw⟩
  · rcases hw with rfl | rfl | rfl
    · exact T2_t1A p0 q0 r0 x y z
    · exact T2_t1B p0 q0 r0 x y z
    · exact T2_t1Z p0 q0 r0 x y z
  · rcases hw with rfl | rfl | rfl
    · exact T2_fA p0 q0 r0 x y z
    · exact T2_fB p0 q0 r0 x y z
    · exact T2_fZ p0 q0 r0 x y z
end PX
namespace PX
open PySem EV
theorem T3_t1A (p0 q0 r0 p1 q1 r1 : Int) (x y z : Int) : callG G0 (callN G0 38) 3 ("Tree" : Str) [filT [97]] [] [] [pot p0 q0 r0, pot p1 q1 r1, pot x y z] = .ok (.ref 3) [pot p0 q0 r0, pot p1 q1 r1, pot x y z, obT [97]] := by kernel_rfl
theorem T3_t1B (p0 q0 r0 p1 q1 r1 : Int) (x y z : Int) : callG G0 (callN G0 38) 3 ("Tree" : Str) [filT [98, 99, 100]] [] [] [pot p0 q0 r0, pot p1 q1 r1, pot x y z] = .ok (.ref 3) [pot p0 q0 r0, pot p1 q1 r1, pot x y z, obT [98, 99, 100]] := by kernel_rfl
theorem T3_t1Z (p0 q0 r0 p1 q1 r1 : Int) (x y z : Int) : callG G0 (callN G0 38) 3 ("Tree" : Str) [filT [122, 122]] [] [] [pot p0 q0 r0, pot p1 q1 r1, pot x y z] = .ok (.ref 3) [pot p0 q0 r0, pot p1 q1 r1, pot x y z, obT [122, 122]] := by kernel_rfl
theorem T3_t2 (p0 q0 r0 p1 q1 r1 : Int) (x y z : Int) (w : List Nat) : callG G0 (callN G0 38) 3 ("Tree" : Str) [filN] [] [] [pot p0 q0 r0, pot p1 q1 r1, pot x y z, obT w] = .ok (.ref 4) [pot p0 q0 r0, pot p1 q1 r1, pot x y z, obT w, obN] := by kernel_rfl
theorem T3_m0A (p0 q0 r0 p1 q1 r1 : Int) (x y z : Int) : told 2 0 (.str [115, 47, 109, 97, 105, 110]) (.str [104]) [pot p0 q0 r0, pot p1 q1 r1, pot x y z, obT [97], obN] = .ok (.str []) [pot p0 q0 r0, pot p1 q1 r1, pot x y z, obT [97], obN] := by kernel_rfl
theorem T3_m0B (p0 q0 r0 p1 q1 r1 : Int) (x y z : Int) : told 2 0 (.str [115, 47, 109, 97, 105, 110]) (.str [104]) [pot p0 q0 r0, pot p1 q1 r1, pot x y z, obT [98, 99, 100], obN] = .ok (.str []) [pot p0 q0 r0, pot p1 q1 r1, pot x y z, obT [98, 99, 100], obN] := by kernel_rfl
theorem T3_m0Z (p0 q0 r0 p1 q1 r1 : Int) (x y z : Int) : told 2 0 (.str [115, 47, 109, 97, 105, 110]) (.str [104]) [pot p0 q0 r0, pot p1 q1 r1, pot x y z, obT [122, 122], obN] = .ok (.str []) [pot p0 q0 r0, pot p1 q1 r1, pot x y z, obT [122, 122], obN] := by kernel_rfl
theorem T3_o0_0 (p0 q0 r0 p1 q1 r1 : Int) (x y z : Int) (w bx : List Nat) : told 2 0 (.str [100, 47, 98]) (.str bx) [pot p0 q0 r0, pot p1 q1 r1, pot x y z, obT w, obN] = .ok (.str [112, 97, 116, 104]) [pot p0 q0 r0, pot p1 q1 r1, pot x y z, obT w, obN] := by kernel_rfl
theorem T3_o0_1 (p0 q0 r0 p1 q1 r1 : Int) (x y z : Int) (w bx : List Nat) : told 2 0 (.str []) (.str bx) [pot p0 q0 r0, pot p1 q1 r1, pot x y z, obT w, obN] = .ok (.str [112, 97, 116, 104]) [pot p0 q0 r0, pot p1 q1 r1, pot x y z, obT w, obN] := by kernel_rfl
theorem T3_o0_2 (p0 q0 r0 p1 q1 r1 : Int) (x y z : Int) (w bx : List Nat) : told 2 0 (.non) (.str bx) [pot p0 q0 r0, pot p1 q1 r1, pot x y z, obT w, obN] = .ok (.str [112, 97, 116, 104]) [pot p0 q0 r0, pot p1 q1 r1, pot x y z, obT w, obN] := by kernel_rfl
theorem T3_o0_3 (p0 q0 r0 p1 q1 r1 : Int) (x y z : Int) (w bx : List Nat) : told 2 0 (.int 0) (.str bx) [pot p0 q0 r0, pot p1 q1 r1, pot x y z, obT w, obN] = .ok (.str [112, 97, 116, 104]) [pot p0 q0 r0, pot p1 q1 r1, pot x y z, obT w, obN] := by kernel_rfl
theorem T3_o0_4 (p0 q0 r0 p1 q1 r1 : Int) (x y z : Int) (w bx : List Nat) : told 2 0 (.tup [.str [115, 47, 109, 97, 105, 110]]) (.str bx) [pot p0 q0 r0, pot p1 q1 r1, pot x y z, obT w, obN] = .ok (.str [112, 97, 116, 104]) [pot p0 q0 r0, pot p1 q1 r1, pot x y z, obT w, obN] := by kernel_rfl
theorem T3_o0_5 (p0 q0 r0 p1 q1 r1 : Int) (x y z : Int) (w bx : List Nat) : told 2 0 (.str [109, 97, 105, 110]) (.str bx) [pot p0 q0 r0, pot p1 q1 r1, pot x y z, obT w, obN] = .ok (.str [112, 97, 116, 104]) [pot p0 q0 r0, pot p1 q1 r1, pot x y z, obT w, obN] := by kernel_rfl
theorem T3_o0_6 (p0 q0 r0 p1 q1 r1 : Int) (x y z : Int) (w bx : List Nat) : told 2 0 (.str [115, 47, 109, 97, 105, 110, 32]) (.str bx) [pot p0 q0 r0, pot p1 q1 r1, pot x y z, obT w, obN] = .ok (.str [112, 97, 116, 104]) [pot p0 q0 r0, pot p1 q1 r1, pot x y z, obT w, obN] := by kernel_rfl
theorem T3_o0_7 (p0 q0 r0 p1 q1 r1 : Int) (x y z : Int) (w bx : List Nat) : told 2 0 (.lst [.str [115, 47, 109, 97, 105, 110]]) (.str bx) [pot p0 q0 r0, pot p1 q1 r1, pot x y z, obT w, obN] = .ok (.str [112, 97, 116, 104]) [pot p0 q0 r0, pot p1 q1 r1, pot x y z, obT w, obN] := by kernel_rfl
theorem T3_o0_8 (p0 q0 r0 p1 q1 r1 : Int) (x y z : Int) (w bx : List Nat) : told 2 0 (.str [100, 47, 120]) (.str bx) [pot p0 q0 r0, pot p1 q1 r1, pot x y z, obT w, obN] = .ok (.str [112, 97, 116, 104]) [pot p0 q0 r0, pot p1 q1 r1, pot x y z, obT w, obN] := by kernel_rfl
theorem T3_h0 (p0 q0 r0 p1 q1 r1 : Int) (x y z : Int) (w : List Nat) : told 2 0 (.str [100, 47, 101]) (.str [104]) [pot p0 q0 r0, pot p1 q1 r1, pot x y z, obT w, obN] = .ok (.str [112, 97, 116, 104]) [pot p0 q0 r0, pot p1 q1 r1, pot x y z, obT w, obN] := by kernel_rfl
theorem T3_c0A (p0 q0 r0 p1 q1 r1 : Int) (x y z : Int) : told 2 0 (.str [100, 47, 99]) (.str [104]) [pot p0 q0 r0, pot p1 q1 r1, pot x y z, obT [97], obN] = .ok (.str []) [pot p0 q0 r0, pot p1 q1 r1, pot x y z, obT [97], obN] := by kernel_rfl
theorem T3_c0B (p0 q0 r0 p1 q1 r1 : Int) (x y z : Int) : told 2 0 (.str [100, 47, 99]) (.str [104]) [pot p0 q0 r0, pot p1 q1 r1, pot x y z, obT [98, 99, 100], obN] = .ok (.str []) [pot p0 q0 r0, pot p1 q1 r1, pot x y z, obT [98, 99, 100], obN] := by kernel_rfl
theorem T3_c0Z (p0 q0 r0 p1 q1 r1 : Int) (x y z : Int) : told 2 0 (.str [100, 47, 99]) (.str [104]) [pot p0 q0 r0, pot p1 q1 r1, pot x y z, obT [122, 122], obN] = .ok (.str []) [pot p0 q0 r0, pot p1 q1 r1, pot x y z, obT [122, 122], obN] := by kernel_rfl
theorem T3_m1A (p0 q0 r0 p1 q1 r1 : Int) (x y z : Int) : told 2 1 (.str [115, 47, 109, 97, 105, 110]) (.str [104]) [pot p0 q0 r0, pot p1 q1 r1, pot x y z, obT [97], obN] = .ok (.str []) [pot p0 q0 r0, pot p1 q1 r1, pot x y z, obT [97], obN] := by kernel_rfl
theorem T3_m1B (p0 q0 r0 p1 q1 r1 : Int) (x y z : Int) : told 2 1 (.str [115, 47, 109, 97, 105, 110]) (.str [104]) [pot p0 q0 r0, pot p1 q1 r1, pot x y z, obT [98, 99, 100], obN] = .ok (.str []) [pot p0 q0 r0, pot p1 q1 r1, pot x y z, obT [98, 99, 100], obN] := by kernel_rfl
theorem T3_m1Z (p0 q0 r0 p1 q1 r1 : Int) (x y z : Int) : told 2 1 (.str [115, 47, 109, 97, 105, 110]) (.str [104]) [pot p0 q0 r0, pot p1 q1 r1, pot x y z, obT [122, 122], obN] = .ok (.str []) [pot p0 q0 r0, pot p1 q1 r1, pot x y z, obT [122, 122], obN] := by kernel_rfl
theorem T3_o1_0 (p0 q0 r0 p1 q1 r1 : Int) (x y z : Int) (w bx : List Nat) : told 2 1 (.str [100, 47, 98]) (.str bx) [pot p0 q0 r0, pot p1 q1 r1, pot x y z, obT w, obN] = .ok (.str [112, 97, 116, 104]) [pot p0 q0 r0, pot p1 q1 r1, pot x y z, obT w, obN] := by kernel_rfl
theorem T3_o1_1 (p0 q0 r0 p1 q1 r1 : Int) (x y z : Int) (w bx : List Nat) : told 2 1 (.str []) (.str bx) [pot p0 q0 r0, pot p1 q1 r1, pot x y z, obT w, obN] = .ok (.str [112, 97, 116, 104]) [pot p0 q0 r0, pot p1 q1 r1, pot x y z, obT w, obN] := by kernel_rfl
theorem T3_o1_2 (p0 q0 r0 p1 q1 r1 : Int) (x y z : Int) (w bx : List Nat) : told 2 1 (.non) (.str bx) [pot p0 q0 r0, pot p1 q1 r1, pot x y z, obT w, obN] = .ok (.str [112, 97, 116, 104]) [pot p0 q0 r0, pot p1 q1 r1, pot x y z, obT w, obN] := by kernel_rfl
theorem T3_o1_3 (p0 q0 r0 p1 q1 r1 : Int) (x y z : Int) (w bx : List Nat) : told 2 1 (.int 0) (.str bx) [pot p0 q0 r0, pot p1 q1 r1, pot x y z, obT w, obN] = .ok (.str [112, 97, 116, 104]) [pot p0 q0 r0, pot p1 q1 r1, pot x y z, obT w, obN] := by kernel_rfl
theorem T3_o1_4 (p0 q0 r0 p1 q1 r1 : Int) (x y z : Int) (w bx : List Nat) : told 2 1 (.tup [.str [115, 47, 109, 97, 105, 110]]) (.str bx) [pot p0 q0 r0, pot p1 q1 r1, pot x y z, obT w, obN] = .ok (.str [112, 97, 116, 104]) [pot p0 q0 r0, pot p1 q1 r1, pot x y z, obT w, obN] := by kernel_rfl
theorem T3_o1_5 (p0 q0 r0 p1 q1 r1 : Int) (x y z : Int) (w bx : List Nat) : told 2 1 (.str [109, 97, 105, 110]) (.str bx) [pot p0 q0 r0, pot p1 q1 r1, pot x y z, obT w, obN] = .ok (.str [112, 97, 116, 104]) [pot p0 q0 r0, pot p1 q1 r1, pot x y z, obT w, obN] := by kernel_rfl
theorem T3_o1_6 (p0 q0 r0 p1 q1 r1 : Int) (x y z : Int) (w bx : List Nat) : told 2 1 (.str [115, 47, 109, 97, 105, 110, 32]) (.str bx) [pot p0 q0 r0, pot p1 q1 r1, pot x y z, obT w, obN] = .ok (.str [112, 97, 116, 104]) [pot p0 q0 r0, pot p1 q1 r1, pot x y z, obT w, obN] := by kernel_rfl
theorem T3_o1_7 (p0 q0 r0 p1 q1 r1 : Int) (x y z : Int) (w bx : List Nat) : told 2 1 (.lst [.str [115, 47, 109, 97, 105, 110]]) (.str bx) [pot p0 q0 r0, pot p1 q1 r1, pot x y z, obT w, obN] = .ok (.str [112, 97, 116, 104]) [pot p0 q0 r0, pot p1 q1 r1, pot x y z, obT w, obN] := by kernel_rfl
theorem T3_o1_8 (p0 q0 r0 p1 q1 r1 : Int) (x y z : Int) (w bx : List Nat) : told 2 1 (.str [100, 47, 120]) (.str bx) [pot p0 q0 r0, pot p1 q1 r1, pot x y z, obT w, obN] = .ok (.str [112, 97, 116, 104]) [pot p0 q0 r0, pot p1 q1 r1, pot x y z, obT w, obN] := by kernel_rfl
theorem T3_h1 (p0 q0 r0 p1 q1 r1 : Int) (x y z : Int) (w : List Nat) : told 2 1 (.str [100, 47, 101]) (.str [104]) [pot p0 q0 r0, pot p1 q1 r1, pot x y z, obT w, obN] = .ok (.str [112, 97, 116, 104]) [pot p0 q0 r0, pot p1 q1 r1, pot x y z, obT w, obN] := by kernel_rfl
theorem T3_c1A (p0 q0 r0 p1 q1 r1 : Int) (x y z : Int) : told 2 1 (.str [100, 47, 99]) (.str [104]) [pot p0 q0 r0, pot p1 q1 r1, pot x y z, obT [97], obN] = .ok (.str []) [pot p0 q0 r0, pot p1 q1 r1, pot x y z, obT [97], obN] := by kernel_rfl
theorem T3_c1B (p0 q0 r0 p1 q1 r1 : Int) (x y z : Int) : told 2 1 (.str [100, 47, 99]) (.str [104]) [pot p0 q0 r0, pot p1 q1 r1, pot x y z, obT [98, 99, 100], obN] = .ok (.str []) [pot p0 q0 r0, pot p1 q1 r1, pot x y z, obT [98, 99, 100], obN] := by kernel_rfl
theorem T3_c1Z (p0 q0 r0 p1 q1 r1 : Int) (x y z : Int) : told 2 1 (.str [100, 47, 99]) (.str [104]) [pot p0 q0 r0, pot p1 q1 r1, pot x y z, obT [122, 122], obN] = .ok (.str []) [pot p0 q0 r0, pot p1 q1 r1, pot x y z, obT [122, 122], obN] := by kernel_rfl
theorem T3_m2A (p0 q0 r0 p1 q1 r1 : Int) (x y z : Int) : told 2 2 (.str [115, 47, 109, 97, 105, 110]) (.str [104]) [pot p0 q0 r0, pot p1 q1 r1, pot x y z, obT [97], obN] = .ok (.str []) [pot p0 q0 r0, pot p1 q1 r1, pot x y z, obT [97], obN] := by kernel_rfl
theorem T3_m2B (p0 q0 r0 p1 q1 r1 : Int) (x y z : Int) : told 2 2 (.str [115, 47, 109, 97, 105, 110]) (.str [104]) [pot p0 q0 r0, pot p1 q1 r1, pot x y z, obT [98, 99, 100], obN] = .ok (.str []) [pot p0 q0 r0, pot p1 q1 r1, pot x y z, obT [98, 99, 100], obN] := by kernel_rfl
theorem T3_m2Z (p0 q0 r0 p1 q1 r1 : Int) (x y z : Int) : told 2 2 (.str [115, 47, 109, 97, 105, 110]) (.str [104]) [pot p0 q0 r0, pot p1 q1 r1, pot x y z, obT [122, 122], obN] = .ok (.str []) [pot p0 q0 r0, pot p1 q1 r1, pot x y z, obT [122, 122], obN] := by kernel_rfl
theorem T3_o2_0 (p0 q0 r0 p1 q1 r1 : Int) (x y z : Int) (w bx : List Nat) : told 2 2 (.str [100, 47, 98]) (.str bx) [pot p0 q0 r0, pot p1 q1 r1, pot x y z, obT w, obN] = .ok (.str [112, 97, 116, 104]) [pot p0 q0 r0, pot p1 q1 r1, pot x y z, obT w, obN] := by kernel_rfl
theorem T3_o2_1 (p0 q0 r0 p1 q1 r1 : Int) (x y z : Int) (w bx : List Nat) : told 2 2 (.str []) (.str bx) [pot p0 q0 r0, pot p1 q1 r1, pot x y z, obT w, obN] = .ok (.str [112, 97, 116, 104]) [pot p0 q0 r0, pot p1 q1 r1, pot x y z, obT w, obN] := by kernel_rfl
theorem T3_o2_2 (p0 q0 r0 p1 q1 r1 : Int) (x y z : Int) (w bx : List Nat) : told 2 2 (.non) (.str bx) [pot p0 q0 r0, pot p1 q1 r1, pot x y z, obT w, obN] = .ok (.str [112, 97, 116, 104]) [pot p0 q0 r0, pot p1 q1 r1, pot x y z, obT w, obN] := by kernel_rfl
theorem T3_o2_3 (p0 q0 r0 p1 q1 r1 : Int) (x y z : Int) (w bx : List Nat) : told 2 2 (.int 0) (.str bx) [pot p0 q0 r0, pot p1 q1 r1, pot x y z, obT w, obN] = .ok (.str [112, 97, 116, 104]) [pot p0 q0 r0, pot p1 q1 r1, pot x y z, obT w, obN] := by kernel_rfl
theorem T3_o2_4 (p0 q0 r0 p1 q1 r1 : Int) (x y z : Int) (w bx : List Nat) : told 2 2 (.tup [.str [115, 47, 109, 97, 105, 110]]) (.str bx) [pot p0 q0 r0, pot p1 q1 r1, pot x y z, obT w, obN] = .ok (.str [112, 97, 116, 104]) [pot p0 q0 r0, pot p1 q1 r1, pot x y z, obT w, obN] := by kernel_rfl
theorem T3_o2_5 (p0 q0 r0 p1 q1 r1 : Int) (x y z : Int) (w bx : List Nat) : told 2 2 (.str [109, 97, 105, 110]) (.str bx) [pot p0 q0 r0, pot p1 q1 r1, pot x y z, obT w, obN] = .ok (.str [112, 97, 116, 104]) [pot p0 q0 r0, pot p1 q1 r1, pot x y z, obT w, obN] := by kernel_rfl
theorem T3_o2_6 (p0 q0 r0 p1 q1 r1 : Int) (x y z : Int) (w bx : List Nat) : told 2 2 (.str [115, 47, 109, 97, 105, 110, 32]) (.str bx) [pot p0 q0 r0, pot p1 q1 r1, pot x y z, obT w, obN] = .ok (.str [112, 97, 116, 104]) [pot p0 q0 r0, pot p1 q1 r1, pot x y z, obT w, obN] := by kernel_rfl
theorem T3_o2_7 (p0 q0 r0 p1 q1 r1 : Int) (x y z : Int) (w bx : List Nat) : told 2 2 (.lst [.str [115, 47, 109, 97, 105, 110]]) (.str bx) [pot p0 q0 r0, pot p1 q1 r1, pot x y z, obT w, obN] = .ok (.str [112, 97, 116, 104]) [pot p0 q0 r0, pot p1 q1 r1, pot x y z, obT w, obN] := by kernel_rfl
theorem T3_o2_8 (p0 q0 r0 p1 q1 r1 : Int) (x y z : Int) (w bx : List Nat) : told 2 2 (.str [100, 47, 120]) (.str bx) [pot p0 q0 r0, pot p1 q1 r1, pot x y z, obT w, obN] = .ok (.str [112, 97, 116, 104]) [pot p0 q0 r0, pot p1 q1 r1, pot x y z, obT w, obN] := by kernel_rfl
theorem T3_h2 (p0 q0 r0 p1 q1 r1 : Int) (x y z : Int) (w : List Nat) : told 2 2 (.str [100, 47, 101]) (.str [104]) [pot p0 q0 r0, pot p1 q1 r1, pot x y z, obT w, obN] = .ok (.str [112, 97, 116, 104]) [pot p0 q0 r0, pot p1 q1 r1, pot x y z, obT w, obN] := by kernel_rfl
theorem T3_c2A (p0 q0 r0 p1 q1 r1 : Int) (x y z : Int) : told 2 2 (.str [100, 47, 99]) (.str [104]) [pot p0 q0 r0, pot p1 q1 r1, pot x y z, obT [97], obN] = .ok (.str []) [pot p0 q0 r0, pot p1 q1 r1, pot x y z, obT [97], obN] := by kernel_rfl
theorem T3_c2B (p0 q0 r0 p1 q1 r1 : Int) (x y z : Int) : told 2 2 (.str [100, 47, 99]) (.str [104]) [pot p0 q0 r0, pot p1 q1 r1, pot x y z, obT [98, 99, 100], obN] = .ok (.str []) [pot p0 q0 r0, pot p1 q1 r1, pot x y z, obT [98, 99, 100], obN] := by kernel_rfl
theorem T3_c2Z (p0 q0 r0 p1 q1 r1 : Int) (x y z : Int) : told 2 2 (.str [100, 47, 99]) (.str [104]) [pot p0 q0 r0, pot p1 q1 r1, pot x y z, obT [122, 122], obN] = .ok (.str []) [pot p0 q0 r0, pot p1 q1 r1, pot x y z, obT [122, 122], obN] := by kernel_rfl
theorem T3_m3A (p0 q0 r0 p1 q1 r1 : Int) (x y z : Int) : told 2 3 (.str [115, 47, 109, 97, 105, 110]) (.str [104]) [pot p0 q0 r0, pot p1 q1 r1, pot x y z, obT [97], obN] = .ok (.str []) [pot p0 q0 r0, pot p1 q1 r1, pot x y z, obT [97], obN] := by kernel_rfl
theorem T3_m3B (p0 q0 r0 p1 q1 r1 : Int) (x y z : Int) : told 2 3 (.str [115, 47, 109, 97, 105, 110]) (.str [104]) [pot p0 q0 r0, pot p1 q1 r1, pot x y z, obT [98, 99, 100], obN] = .ok (.str []) [pot p0 q0 r0, pot p1 q1 r1, pot x y z, obT [98, 99, 100], obN] := by kernel_rfl
theorem T3_m3Z (p0 q0 r0 p1 q1 r1 : Int) (x y z : Int) : told 2 3 (.str [115, 47, 109, 97, 105, 110]) (.str [104]) [pot p0 q0 r0, pot p1 q1 r1, pot x y z, obT [122, 122], obN] = .ok (.str []) [pot p0 q0 r0, pot p1 q1 r1, pot x y z, obT [122, 122], obN] := by kernel_rfl
theorem T3_o3_0 (p0 q0 r0 p1 q1 r1 : Int) (x y z : Int) (w bx : List Nat) : told 2 3 (.str [100, 47, 98]) (.str bx) [pot p0 q0 r0, pot p1 q1 r1, pot x y z, obT w, obN] = .ok (.str [112, 97, 116, 104]) [pot p0 q0 r0, pot p1 q1 r1, pot x y z, obT w, obN] := by kernel_rfl
theorem T3_o3_1 (p0 q0 r0 p1 q1 r1 : Int) (x y z : Int) (w bx : List Nat) : told 2 3 (.str []) (.str bx) [pot p0 q0 r0, pot p1 q1 r1, pot x y z, obT w, obN] = .ok (.str [112, 97, 116, 104]) [pot p0 q0 r0, pot p1 q1 r1, pot x y z, obT w, obN] := by kernel_rfl
theorem T3_o3_2 (p0 q0 r0 p1 q1 r1 : Int) (x y z : Int) (w bx : List Nat) : told 2 3 (.non) (.str bx) [pot p0 q0 r0, pot p1 q1 r1, pot x y z, obT w, obN] = .ok (.str [112, 97, 116, 104]) [pot p0 q0 r0, pot p1 q1 r1, pot x y z, obT w, obN] := by kernel_rfl
theorem T3_o3_3 (p0 q0 r0 p1 q1 r1 : Int) (x y z : Int) (w bx : List Nat) : told 2 3 (.int 0) (.str bx) [pot p0 q0 r0, pot p1 q1 r1, pot x y z, obT w, obN] = .ok (.str [112, 97, 116, 104]) [pot p0 q0 r0, pot p1 q1 r1, pot x y z, obT w, obN] := by kernel_rfl
theorem T3_o3_4 (p0 q0 r0 p1 q1 r1 : Int) (x y z : Int) (w bx : List Nat) : told 2 3 (.tup [.str [115, 47, 109, 97, 105, 110]]) (.str bx) [pot p0 q0 r0, pot p1 q1 r1, pot x y z, obT w, obN] = .ok (.str [112, 97, 116, 104]) [pot p0 q0 r0, pot p1 q1 r1, pot x y z, obT w, obN] := by kernel_rfl
theorem T3_o3_5 (p0 q0 r0 p1 q1 r1 : Int) (x y z : Int) (w bx : List Nat) : told 2 3 (.str [109, 97, 105, 110]) (.str bx) [pot p0 q0 r0, pot p1 q1 r1, pot x y z, obT w, obN] = .ok (.str [112, 97, 116, 104]) [pot p0 q0 r0, pot p1 q1 r1, pot x y z, obT w, obN] := by kernel_rfl
theorem T3_o3_6 (p0 q0 r0 p1 q1 r1 : Int) (x y z : Int) (w bx : List Nat) : told 2 3 (.str [115, 47, 109, 97, 105, 110, 32]) (.str bx) [pot p0 q0 r0, pot p1 q1 r1, pot x y z, obT w, obN] = .ok (.str [112, 97, 116, 104]) [pot p0 q0 r0, pot p1 q1 r1, pot x y z, obT w, obN] := by kernel_rfl
theorem T3_o3_7 (p0 q0 r0 p1 q1 r1 : Int) (x y z : Int) (w bx : List Nat) : told 2 3 (.lst [.str [115, 47, 109, 97, 105, 110]]) (.str bx) [pot p0 q0 r0, pot p1 q1 r1, pot x y z, obT w, obN] = .ok (.str [112, 97, 116, 104]) [pot p0 q0 r0, pot p1 q1 r1, pot x y z, obT w, obN] := by kernel_rfl
theorem T3_o3_8 (p0 q0 r0 p1 q1 r1 : Int) (x y z : Int) (w bx : List Nat) : told 2 3 (.str [100, 47, 120]) (.str bx) [pot p0 q0 r0, pot p1 q1 r1, pot x y z, obT w, obN] = .ok (.str [112, 97, 116, 104]) [pot p0 q0 r0, pot p1 q1 r1, pot x y z, obT w, obN] := by kernel_rfl
theorem T3_h3 (p0 q0 r0 p1 q1 r1 : Int) (x y z : Int) (w : List Nat) : told 2 3 (.str [100, 47, 101]) (.str [104]) [pot p0 q0 r0, pot p1 q1 r1, pot x y z, obT w, obN] = .ok (.str [112, 97, 116, 104]) [pot p0 q0 r0, pot p1 q1 r1, pot x y z, obT w, obN] := by kernel_rfl
theorem T3_g3 (p0 q0 r0 p1 q1 r1 : Int) (x y z : Int) (w : List Nat) : told 2 3 (.str [100, 47, 99]) (.str [104]) [pot p0 q0 r0, pot p1 q1 r1, pot x y z, obT w, obN] = .ok (.str [112, 97, 116, 104]) [pot p0 q0 r0, pot p1 q1 r1, pot x y z, obT w, obN] := by kernel_rfl
theorem T3_m4A (p0 q0 r0 p1 q1 r1 : Int) (x y z : Int) : told 2 4 (.str [115, 47, 109, 97, 105, 110]) (.str [104]) [pot p0 q0 r0, pot p1 q1 r1, pot x y z, obT [97], obN] = .ok (.str []) [pot p0 q0 r0, pot p1 q1 r1, pot x y z, obT [97], obN] := by kernel_rfl
theorem T3_m4B (p0 q0 r0 p1 q1 r1 : Int) (x y z : Int) : told 2 4 (.str [115, 47, 109, 97, 105, 110]) (.str [104]) [pot p0 q0 r0, pot p1 q1 r1, pot x y z, obT [98, 99, 100], obN] = .ok (.str []) [pot p0 q0 r0, pot p1 q1 r1, pot x y z, obT [98, 99, 100], obN] := by kernel_rfl
theorem T3_m4Z (p0 q0 r0 p1 q1 r1 : Int) (x y z : Int) : told 2 4 (.str [115, 47, 109, 97, 105, 110]) (.str [104]) [pot p0 q0 r0, pot p1 q1 r1, pot x y z, obT [122, 122], obN] = .ok (.str []) [pot p0 q0 r0, pot p1 q1 r1, pot x y z, obT [122, 122], obN] := by kernel_rfl
theorem T3_o4_0 (p0 q0 r0 p1 q1 r1 : Int) (x y z : Int) (w bx : List Nat) : told 2 4 (.str [100, 47, 98]) (.str bx) [pot p0 q0 r0, pot p1 q1 r1, pot x y z, obT w, obN] = .ok (.str [112, 97, 116, 104]) [pot p0 q0 r0, pot p1 q1 r1, pot x y z, obT w, obN] := by kernel_rfl
theorem T3_o4_1 (p0 q0 r0 p1 q1 r1 : Int) (x y z : Int) (w bx : List Nat) : told 2 4 (.str []) (.str bx) [pot p0 q0 r0, pot p1 q1 r1, pot x y z, obT w, obN] = .ok (.str [112, 97, 116, 104]) [pot p0 q0 r0, pot p1 q1 r1, pot x y z, obT w, obN] := by kernel_rfl
theorem T3_o4_2 (p0 q0 r0 p1 q1 r1 : Int) (x y z : Int) (w bx : List Nat) : told 2 4 (.non) (.str bx) [pot p0 q0 r0, pot p1 q1 r1, pot x y z, obT w, obN] = .ok (.str [112, 97, 116, 104]) [pot p0 q0 r0, pot p1 q1 r1, pot x y z, obT w, obN] := by kernel_rfl
theorem T3_o4_3 (p0 q0 r0 p1 q1 r1 : Int) (x y z : Int) (w bx : List Nat) : told 2 4 (.int 0) (.str bx) [pot p0 q0 r0, pot p1 q1 r1, pot x y z, obT w, obN] = .ok (.str [112, 97, 116, 104]) [pot p0 q0 r0, pot p1 q1 r1, pot x y z, obT w, obN] := by kernel_rfl
theorem T3_o4_4 (p0 q0 r0 p1 q1 r1 : Int) (x y z : Int) (w bx : List Nat) : told 2 4 (.tup [.str [115, 47, 109, 97, 105, 110]]) (.str bx) [pot p0 q0 r0, pot p1 q1 r1, pot x y z, obT w, obN] = .ok (.str [112, 97, 116, 104]) [pot p0 q0 r0, pot p1 q1 r1, pot x y z, obT w, obN] := by kernel_rfl
theorem T3_o4_5 (p0 q0 r0 p1 q1 r1 : Int) (x y z : Int) (w bx : List Nat) : told 2 4 (.str [109, 97, 105, 110]) (.str bx) [pot p0 q0 r0, pot p1 q1 r1, pot x y z, obT w, obN] = .ok (.str [112, 97, 116, 104]) [pot p0 q0 r0, pot p1 q1 r1, pot x y z, obT w, obN] := by kernel_rfl
theorem T3_o4_6 (p0 q0 r0 p1 q1 r1 : Int) (x y z : Int) (w bx : List Nat) : told 2 4 (.str [115, 47, 109, 97, 105, 110, 32]) (.str bx) [pot p0 q0 r0, pot p1 q1 r1, pot x y z, obT w, obN] = .ok (.str [112, 97, 116, 104]) [pot p0 q0 r0, pot p1 q1 r1, pot x y z, obT w, obN] := by kernel_rfl
theorem T3_o4_7 (p0 q0 r0 p1 q1 r1 : Int) (x y z : Int) (w bx : List Nat) : told 2 4 (.lst [.str [115, 47, 109, 97, 105, 110]]) (.str bx) [pot p0 q0 r0, pot p1 q1 r1, pot x y z, obT w, obN] = .ok (.str [112, 97, 116, 104]) [pot p0 q0 r0, pot p1 q1 r1, pot x y z, obT w, obN] := by kernel_rfl
theorem T3_o4_8 (p0 q0 r0 p1 q1 r1 : Int) (x y z : Int) (w bx : List Nat) : told 2 4 (.str [100, 47, 120]) (.str bx) [pot p0 q0 r0, pot p1 q1 r1, pot x y z, obT w, obN] = .ok (.str [112, 97, 116, 104]) [pot p0 q0 r0, pot p1 q1 r1, pot x y z, obT w, obN] := by kernel_rfl
theorem T3_h4 (p0 q0 r0 p1 q1 r1 : Int) (x y z : Int) (w : List Nat) : told 2 4 (.str [100, 47, 101]) (.str [104]) [pot p0 q0 r0, pot p1 q1 r1, pot x y z, obT w, obN] = .ok (.str [112, 97, 116, 104]) [pot p0 q0 r0, pot p1 q1 r1, pot x y z, obT w, obN] := by kernel_rfl
theorem T3_g4 (p0 q0 r0 p1 q1 r1 : Int) (x y z : Int) (w : List Nat) : told 2 4 (.str [100, 47, 99]) (.str [104]) [pot p0 q0 r0, pot p1 q1 r1, pot x y z, obT w, obN] = .ok (.str [112, 97, 116, 104]) [pot p0 q0 r0, pot p1 q1 r1, pot x y z, obT w, obN] := by kernel_rfl
theorem T3_m5A (p0 q0 r0 p1 q1 r1 : Int) (x y z : Int) : told 2 5 (.str [115, 47, 109, 97, 105, 110]) (.str [104]) [pot p0 q0 r0, pot p1 q1 r1, pot x y z, obT [97], obN] = .ok (.str []) [pot p0 q0 r0, pot p1 q1 r1, pot x y z, obT [97], obN] := by kernel_rfl
theorem T3_m5B (p0 q0 r0 p1 q1 r1 : Int) (x y z : Int) : told 2 5 (.str [115, 47, 109, 97, 105, 110]) (.str [104]) [pot p0 q0 r0, pot p1 q1 r1, pot x y z, obT [98, 99, 100], obN] = .ok (.str []) [pot p0 q0 r0, pot p1 q1 r1, pot x y z, obT [98, 99, 100], obN] := by kernel_rfl
theorem T3_m5Z (p0 q0 r0 p1 q1 r1 : Int) (x y z : Int) : told 2 5 (.str [115, 47, 109, 97, 105, 110]) (.str [104]) [pot p0 q0 r0, pot p1 q1 r1, pot x y z, obT [122, 122], obN] = .ok (.str []) [pot p0 q0 r0, pot p1 q1 r1, pot x y z, obT [122, 122], obN] := by kernel_rfl
theorem T3_o5_0 (p0 q0 r0 p1 q1 r1 : Int) (x y z : Int) (w bx : List Nat) : told 2 5 (.str [100, 47, 98]) (.str bx) [pot p0 q0 r0, pot p1 q1 r1, pot x y z, obT w, obN] = .ok (.str [112, 97, 116, 104]) [pot p0 q0 r0, pot p1 q1 r1, pot x y z, obT w, obN] := by kernel_rfl
theorem T3_o5_1 (p0 q0 r0 p1 q1 r1 : Int) (x y z : Int) (w bx : List Nat) : told 2 5 (.str []) (.str bx) [pot p0 q0 r0, pot p1 q1 r1, pot x y z, obT w, obN] = .ok (.str [112, 97, 116, 104]) [pot p0 q0 r0, pot p1 q1 r1, pot x y z, obT w, obN] := by kernel_rfl
theorem T3_o5_2 (p0 q0 r0 p1 q1 r1 : Int) (x y z : Int) (w bx : List Nat) : told 2 5 (.non) (.str bx) [pot p0 q0 r0, pot p1 q1 r1, pot x y z, obT w, obN] = .ok (.str [112, 97, 116, 104]) [pot p0 q0 r0, pot p1 q1 r1, pot x y z, obT w, obN] := by kernel_rfl
theorem T3_o5_3 (p0 q0 r0 p1 q1 r1 : Int) (x y z : Int) (w bx : List Nat) : told 2 5 (.int 0) (.str bx) [pot p0 q0 r0, pot p1 q1 r1, pot x y z, obT w, obN] = .ok (.str [112, 97, 116, 104]) [pot p0 q0 r0, pot p1 q1 r1, pot x y z, obT w, obN] := by kernel_rfl
theorem T3_o5_4 (p0 q0 r0 p1 q1 r1 : Int) (x y z : Int) (w bx : List Nat) : told 2 5 (.tup [.str [115, 47, 109, 97, 105, 110]]) (.str bx) [pot p0 q0 r0, pot p1 q1 r1, pot x y z, obT w, obN] = .ok (.str [112, 97, 116, 104]) [pot p0 q0 r0, pot p1 q1 r1, pot x y z, obT w, obN] := by kernel_rfl
theorem T3_o5_5 (p0 q0 r0 p1 q1 r1 : Int) (x y z : Int) (w bx : List Nat) : told 2 5 (.str [109, 97, 105, 110]) (.str bx) [pot p0 q0 r0, pot p1 q1 r1, pot x y z, obT w, obN] = .ok (.str [112, 97, 116, 104]) [pot p0 q0 r0, pot p1 q1 r1, pot x y z, obT w, obN] := by kernel_rfl
theorem T3_o5_6 (p0 q0 r0 p1 q1 r1 : Int) (x y z : Int) (w bx : List Nat) : told 2 5 (.str [115, 47, 109, 97, 105, 110, 32]) (.str bx) [pot p0 q0 r0, pot p1 q1 r1, pot x y z, obT w, obN] = .ok (.str [112, 97, 116, 104]) [pot p0 q0 r0, pot p1 q1 r1, pot x y z, obT w, obN] := by kernel_rfl
theorem T3_o5_7 (p0 q0 r0 p1 q1 r1 : Int) (x y z : Int) (w bx : List Nat) : told 2 5 (.lst [.str [115, 47, 109, 97, 105, 110]]) (.str bx) [pot p0 q0 r0, pot p1 q1 r1, pot x y z, obT w, obN] = .ok (.str [112, 97, 116, 104]) [pot p0 q0 r0, pot p1 q1 r1, pot x y z, obT w, obN] := by kernel_rfl
theorem T3_o5_8 (p0 q0 r0 p1 q1 r1 : Int) (x y z : Int) (w bx : List Nat) : told 2 5 (.str [100, 47, 120]) (.str bx) [pot p0 q0 r0, pot p1 q1 r1, pot x y z, obT w, obN] = .ok (.str [112, 97, 116, 104]) [pot p0 q0 r0, pot p1 q1 r1, pot x y z, obT w, obN] := by kernel_rfl
theorem T3_h5 (p0 q0 r0 p1 q1 r1 : Int) (x y z : Int) (w : List Nat) : told 2 5 (.str [100, 47, 101]) (.str [104]) [pot p0 q0 r0, pot p1 q1 r1, pot x y z, obT w, obN] = .ok (.str [112, 97, 116, 104]) [pot p0 q0 r0, pot p1 q1 r1, pot x y z, obT w, obN] := by kernel_rfl
theorem T3_c5A (p0 q0 r0 p1 q1 r1 : Int) (x y z : Int) : told 2 5 (.str [100, 47, 99]) (.str [104]) [pot p0 q0 r0, pot p1 q1 r1, pot x y z, obT [97], obN] = .ok (.str []) [pot p0 q0 r0, pot p1 q1 r1, pot x y z, obT [97], obN] := by kernel_rfl
theorem T3_c5B (p0 q0 r0 p1 q1 r1 : Int) (x y z : Int) : told 2 5 (.str [100, 47, 99]) (.str [104]) [pot p0 q0 r0, pot p1 q1 r1, pot x y z, obT [98, 99, 100], obN] = .ok (.str []) [pot p0 q0 r0, pot p1 q1 r1, pot x y z, obT [98, 99, 100], obN] := by kernel_rfl
theorem T3_c5Z (p0 q0 r0 p1 q1 r1 : Int) (x y z : Int) : told 2 5 (.str [100, 47, 99]) (.str [104]) [pot p0 q0 r0, pot p1 q1 r1, pot x y z, obT [122, 122], obN] = .ok (.str []) [pot p0 q0 r0, pot p1 q1 r1, pot x y z, obT [122, 122], obN] := by kernel_rfl
theorem T3_s0 (p0 q0 r0 p1 q1 r1 : Int) (x y z : Int) (w : List Nat) : told 2 5 (.str [115, 47, 109, 97, 105, 110]) (.str []) [pot p0 q0 r0, pot p1 q1 r1, pot x y z, obT w, obN] = .ok (.str [104, 111, 115, 116]) [pot p0 q0 r0, pot p1 q1 r1, pot x y z, obT w, obN] := by kernel_rfl
theorem T3_s1 (p0 q0 r0 p1 q1 r1 : Int) (x y z : Int) (w : List Nat) : told 2 5 (.str [115, 47, 109, 97, 105, 110]) (.non) [pot p0 q0 r0, pot p1 q1 r1, pot x y z, obT w, obN] = .ok (.str [104, 111, 115, 116]) [pot p0 q0 r0, pot p1 q1 r1, pot x y z, obT w, obN] := by kernel_rfl
theorem T3_s2 (p0 q0 r0 p1 q1 r1 : Int) (x y z : Int) (w : List Nat) : told 2 5 (.str [115, 47, 109, 97, 105, 110]) (.str [72]) [pot p0 q0 r0, pot p1 q1 r1, pot x y z, obT w, obN] = .ok (.str [104, 111, 115, 116]) [pot p0 q0 r0, pot p1 q1 r1, pot x y z, obT w, obN] := by kernel_rfl
theorem T3_s3 (p0 q0 r0 p1 q1 r1 : Int) (x y z : Int) (w : List Nat) : told 2 5 (.str [115, 47, 109, 97, 105, 110]) (.int 0) [pot p0 q0 r0, pot p1 q1 r1, pot x y z, obT w, obN] = .ok (.str [104, 111, 115, 116]) [pot p0 q0 r0, pot p1 q1 r1, pot x y z, obT w, obN] := by kernel_rfl
theorem T3_s4 (p0 q0 r0 p1 q1 r1 : Int) (x y z : Int) (w : List Nat) : told 2 5 (.str [115, 47, 109, 97, 105, 110]) (.bl true) [pot p0 q0 r0, pot p1 q1 r1, pot x y z, obT w, obN] = .ok (.str [104, 111, 115, 116]) [pot p0 q0 r0, pot p1 q1 r1, pot x y z, obT w, obN] := by kernel_rfl
theorem T3_s5 (p0 q0 r0 p1 q1 r1 : Int) (x y z : Int) (w : List Nat) : told 2 5 (.str [115, 47, 109, 97, 105, 110]) (.tup [.str [104]]) [pot p0 q0 r0, pot p1 q1 r1, pot x y z, obT w, obN] = .ok (.str [104, 111, 115, 116]) [pot p0 q0 r0, pot p1 q1 r1, pot x y z, obT w, obN] := by kernel_rfl
theorem T3_s6 (p0 q0 r0 p1 q1 r1 : Int) (x y z : Int) (w : List Nat) : told 2 5 (.str [115, 47, 109, 97, 105, 110]) (.str [104, 49]) [pot p0 q0 r0, pot p1 q1 r1, pot x y z, obT w, obN] = .ok (.str [104, 111, 115, 116]) [pot p0 q0 r0, pot p1 q1 r1, pot x y z, obT w, obN] := by kernel_rfl
theorem T3_s7 (p0 q0 r0 p1 q1 r1 : Int) (x y z : Int) (w : List Nat) : told 2 5 (.str [115, 47, 109, 97, 105, 110]) (.lst [.str [104]]) [pot p0 q0 r0, pot p1 q1 r1, pot x y z, obT w, obN] = .ok (.str [104, 111, 115, 116]) [pot p0 q0 r0, pot p1 q1 r1, pot x y z, obT w, obN] := by kernel_rfl
theorem T3_fA (p0 q0 r0 p1 q1 r1 : Int) (x y z : Int) : callN G0 38 "told_apart" [.ref 3, .ref 4, sMain] 3 [pot p0 q0 r0, pot p1 q1 r1, pot x y z, obT [97], obN] = .ok (.tup [.str [97], .str [107]]) [pot p0 q0 r0, pot p1 q1 r1, pot x y z, obT [97], obN] := by kernel_rfl
theorem T3_fB (p0 q0 r0 p1 q1 r1 : Int) (x y z : Int) : callN G0 38 "told_apart" [.ref 3, .ref 4, sMain] 3 [pot p0 q0 r0, pot p1 q1 r1, pot x y z, obT [98, 99, 100], obN] = .ok (.tup [.str [97], .str [107]]) [pot p0 q0 r0, pot p1 q1 r1, pot x y z, obT [98, 99, 100], obN] := by kernel_rfl
theorem T3_fZ (p0 q0 r0 p1 q1 r1 : Int) (x y z : Int) : callN G0 38 "told_apart" [.ref 3, .ref 4, sMain] 3 [pot p0 q0 r0, pot p1 q1 r1, pot x y z, obT [122, 122], obN] = .ok (.tup [.str [97], .str [107]]) [pot p0 q0 r0, pot p1 q1 r1, pot x y z, obT [122, 122], obN] := by kernel_rfl
theorem T3_main (p0 q0 r0 p1 q1 r1 : Int) (x y z : Int) (way : Int) (w : List Nat) (hw : w = [97] ∨ w = [98, 99, 100] ∨ w = [122, 122]) (h0 : 0 ≤ way) (h6 : way < 6) : told 2 way sMain (.str [104]) [pot p0 q0 r0, pot p1 q1 r1, pot x y z, obT w, obN] = .ok (.str []) [pot p0 q0 r0, pot p1 q1 r1, pot x y z, obT w, obN] := by
  obtain rfl | rfl | rfl | rfl | rfl | rfl : way = 0 ∨ way = 1 ∨ way = 2 ∨ way = 3 ∨ way = 4 ∨ way = 5 := by omega
  · rcases hw with rfl | rfl | rfl
    · exact T3_m0A p0 q0 r0 p1 q1 r1 x y z
    · exact T3_m0B p0 q0 r0 p1 q1 r1 x y z
    · exact T3_m0Z p0 q0 r0 p1 q1 r1 x y z
  · rcases hw with rfl | rfl | rfl
    · exact T3_m1A p0 q0 r0 p1 q1 r1 x y z
    · exact T3_m1B p0 q0 r0 p1 q1 r1 x y z
    · exact T3_m1Z p0 q0 r0 p1 q1 r1 x y z
  · rcases hw with rfl | rfl | rfl
    · exact T3_m2A p0 q0 r0 p1 q1 r1 x y z
    · exact T3_m2B p0 q0 r0 p1 q1 r1 x y z
    · exact T3_m2Z p0 q0 r0 p1 q1 r1 x y z
  · rcases hw with rfl | rfl | rfl
    · exact T3_m3A p0 q0 r0 p1 q1 r1 x y z
    · exact T3_m3B p0 q0 r0 p1 q1 r1 x y z
    · exact T3_m3Z p0 q0 r0 p1 q1 r1 x y z
  · rcases hw with rfl | rfl | rfl
    · exact T3_m4A p0 q0 r0 p1 q1 r1 x y z
    · exact T3_m4B p0 q0 r0 p1 q1 r1 x y z
    · exact T3_m4Z p0 q0 r0 p1 q1 r1 x y z
  · rcases hw with rfl | rfl | rfl
    · exact T3_m5A p0 q0 r0 p1 q1 r1 x y z
    · exact T3_m5B p0 q0 r0 p1 q1 r1 x y z
    · exact T3_m5Z p0 q0 r0 p1 q1 r1 x y z
theorem T3_odd (p0 q0 r0 p1 q1 r1 : Int) (x y z : Int) (way v : Int) (w bx : List Nat) (h0 : 0 ≤ way) (h6 : way < 6) (g0 : 0 ≤ v) (g9 : v < 9) : ∃ u, atOf odds v = some u ∧ told 2 way u (.str bx) [pot p0 q0 r0, pot p1 q1 r1, pot x y z, obT w, obN] = .ok sPath [pot p0 q0 r0, pot p1 q1 r1, pot x y z, obT w, obN] := by
  obtain rfl | rfl | rfl | rfl | rfl | rfl : way = 0 ∨ way = 1 ∨ way = 2 ∨ way = 3 ∨ way = 4 ∨ way = 5 := by omega
  · obtain rfl | rfl | rfl | rfl | rfl | rfl | rfl | rfl | rfl : v = 0 ∨ v = 1 ∨ v = 2 ∨ v = 3 ∨ v = 4 ∨ v = 5 ∨ v = 6 ∨ v = 7 ∨ v = 8 := by omega
    · exact ⟨_, rfl, T3_o0_0 p0 q0 r0 p1 q1 r1 x y z w bx⟩
    · exact ⟨_, rfl, T3_o0_1 p0 q0 r0 p1 q1 r1 x y z w bx⟩
    · exact ⟨_, rfl, T3_o0_2 p0 q0 r0 p1 q1 r1 x y z w bx⟩
    · exact ⟨_, rfl, T3_o0_3 p0 q0 r0 p1 q1 r1 x y z w bx⟩
    · exact ⟨_, rfl, T3_o0_4 p0 q0 r0 p1 q1 r1 x y z w bx⟩
    · exact ⟨_, rfl, T3_o0_5 p0 q0 r0 p1 q1 r1 x y z w bx⟩
    · exact ⟨_, rfl, T3_o0_6 p0 q0 r0 p1 q1 r1 x y z w bx⟩
    · exact ⟨_, rfl, T3_o0_7 p0 q0 r0 p1 q1 r1 x y z w bx⟩
    · exact ⟨_, rfl, T3_o0_8 p0 q0 r0 p1 q1 r1 x y z w bx⟩
  · obtain rfl | rfl | rfl | rfl | rfl | rfl | rfl | rfl | rfl : v = 0 ∨ v = 1 ∨ v = 2 ∨ v = 3 ∨ v = 4 ∨ v = 5 ∨ v = 6 ∨ v = 7 ∨ v = 8 := by omega
    · exact ⟨_, rfl, T3_o1_0 p0 q0 r0 p1 q1 r1 x y z w bx⟩
    · exact ⟨_, rfl, T3_o1_1 p0 q0 r0 p1 q1 r1 x y z w bx⟩
    · exact ⟨_, rfl, T3_o1_2 p0 q0 r0 p1 q1 r1 x y z w bx⟩
    · exact ⟨_, rfl, T3_o1_3 p0 q0 r0 p1 q1 r1 x y z w bx⟩
    · exact ⟨_, rfl, T3_o1_4 p0 q0 r0 p1 q1 r1 x y z w bx⟩
    · exact ⟨_, rfl, T3_o1_5 p0 q0 r0 p1 q1 r1 x y z w bx⟩
    · exact ⟨_, rfl, T3_o1_6 p0 q0 r0 p1 q1 r1 x y z w bx⟩
    · exact ⟨_, rfl, T3_o1_7 p0 q0 r0 p1 q1 r1 x y z w bx⟩
    · exact ⟨_, rfl, T3_o1_8 p0 q0 r0 p1 q1 r1 x y z w bx⟩
  · obtain rfl | rfl | rfl | rfl | rfl | rfl | rfl | rfl | rfl : v = 0 ∨ v = 1 ∨ v = 2 ∨ v = 3 ∨ v = 4 ∨ v = 5 ∨ v = 6 ∨ v = 7 ∨ v = 8 := by omega
    · exact ⟨_, rfl, T3_o2_0 p0 q0 r0 p1 q1 r1 x y z w bx⟩
    · exact ⟨_, rfl, T3_o2_1 p0 q0 r0 p1 q1 r1 x y z w bx⟩
    · exact ⟨_, rfl, T3_o2_2 p0 q0 r0 p1 q1 r1 x y z w bx⟩
    · exact ⟨_, rfl, T3_o2_3 p0 q0 r0 p1 q1 r1 x y z w bx⟩
    · exact ⟨_, rfl, T3_o2_4 p0 q0 r0 p1 q1 r1 x y z w bx⟩
    · exact ⟨_, rfl, T3_o2_5 p0 q0 r0 p1 q1 r1 x y z w bx⟩
    · exact ⟨_, rfl, T3_o2_6 p0 q0 r0 p1 q1 r1 x y z w bx⟩
    · exact ⟨_, rfl, T3_o2_7 p0 q0 r0 p1 q1 r1 x y z w bx⟩
    · exact ⟨_, rfl, T3_o2_8 p0 q0 r0 p1 q1 r1 x y z w bx⟩
  · obtain rfl | rfl | rfl | rfl | rfl | rfl | rfl | rfl | rfl : v = 0 ∨ v = 1 ∨ v = 2 ∨ v = 3 ∨ v = 4 ∨ v = 5 ∨ v = 6 ∨ v = 7 ∨ v = 8 := by omega
    · exact ⟨_, rfl, T3_o3_0 p0 q0 r0 p1 q1 r1 x y z w bx⟩
    · exact ⟨_, rfl, T3_o3_1 p0 q0 r0 p1 q1 r1 x y z w bx⟩
    · exact ⟨_, rfl, T3_o3_2 p0 q0 r0 p1 q1 r1 x y z w bx⟩
    · exact ⟨_, rfl, T3_o3_3 p0 q0 r0 p1 q1 r1 x y z w bx⟩
    · exact ⟨_, rfl, T3_o3_4 p0 q0 r0 p1 q1 r1 x y z w bx⟩
    · exact ⟨_, rfl, T3_o3_5 p0 q0 r0 p1 q1 r1 x y z w bx⟩
    · exact ⟨_, rfl, T3_o3_6 p0 q0 r0 p1 q1 r1 x y z w bx⟩
    · exact ⟨_, rfl, T3_o3_7 p0 q0 r0 p1 q1 r1 x y z w bx⟩
    · exact ⟨_, rfl, T3_o3_8 p0 q0 r0 p1 q1 r1 x y z w bx⟩
  · obtain rfl | rfl | rfl | rfl | rfl | rfl | rfl | rfl | rfl : v = 0 ∨ v = 1 ∨ v = 2 ∨ v = 3 ∨ v = 4 ∨ v = 5 ∨ v = 6 ∨ v = 7 ∨ v = 8 := by omega
    · exact ⟨_, rfl, T3_o4_0 p0 q0 r0 p1 q1 r1 x y z w bx⟩
    · exact ⟨_, rfl, T3_o4_1 p0 q0 r0 p1 q1 r1 x y z w bx⟩
    · exact ⟨_, rfl, T3_o4_2 p0 q0 r0 p1 q1 r1 x y z w bx⟩
    · exact ⟨_, rfl, T3_o4_3 p0 q0 r0 p1 q1 r1 x y z w bx⟩
    · exact ⟨_, rfl, T3_o4_4 p0 q0 r0 p1 q1 r1 x y z w bx⟩
    · exact ⟨_, rfl, T3_o4_5 p0 q0 r0 p1 q1 r1 x y z w bx⟩
    · exact ⟨_, rfl, T3_o4_6 p0 q0 r0 p1 q1 r1 x y z w bx⟩
    · exact ⟨_, rfl, T3_o4_7 p0 q0 r0 p1 q1 r1 x y z w bx⟩
    · exact ⟨_, rfl, T3_o4_8 p0 q0 r0 p1 q1 r1 x y z w bx⟩
  · obtain rfl | rfl | rfl | rfl | rfl | rfl | rfl | rfl | rfl : v = 0 ∨ v = 1 ∨ v = 2 ∨ v = 3 ∨ v = 4 ∨ v = 5 ∨ v = 6 ∨ v = 7 ∨ v = 8 := by omega
    · exact ⟨_, rfl, T3_o5_0 p0 q0 r0 p1 q1 r1 x y z w bx⟩
    · exact ⟨_, rfl, T3_o5_1 p0 q0 r0 p1 q1 r1 x y z w bx⟩
    · exact ⟨_, rfl, T3_o5_2 p0 q0 r0 p1 q1 r1 x y z w bx⟩
    · exact ⟨_, rfl, T3_o5_3 p0 q0 r0 p1 q1 r1 x y z w bx⟩
    · exact ⟨_, rfl, T3_o5_4 p0 q0 r0 p1 q1 r1 x y z w bx⟩
    · exact ⟨_, rfl, T3_o5_5 p0 q0 r0 p1 q1 r1 x y z w bx⟩
    · exact ⟨_, rfl, T3_o5_6 p0 q0 r0 p1 q1 r1 x y z w bx⟩
    · exact ⟨_, rfl, T3_o5_7 p0 q0 r0 p1 q1 r1 x y z w bx⟩
    · exact ⟨_, rfl, T3_o5_8 p0 q0 r0 p1 q1 r1 x y z w bx⟩
theorem T3_half (p0 q0 r0 p1 q1 r1 : Int) (x y z : Int) (way v : Int) (w : List Nat) (h0 : 0 ≤ way) (h6 : way < 6) (g0 : 0 ≤ v) (g2 : v < 2) (h : (way = 3 ∨ way = 4) ∨ v = 1) : ∃ u, atOf halves v = some u ∧ told 2 way u (.str [104]) [pot p0 q0 r0, pot p1 q1 r1, pot x y z, obT w, obN] = .ok sPath [pot p0 q0 r0, pot p1 q1 r1, pot x y z, obT w, obN] := by
  by_cases hv : v = 1
  · subst hv
    obtain rfl | rfl | rfl | rfl | rfl | rfl : way = 0 ∨ way = 1 ∨ way = 2 ∨ way = 3 ∨ way = 4 ∨ way = 5 := by omega
    · exact ⟨_, rfl, T3_h0 p0 q0 r0 p1 q1 r1 x y z w⟩
    · exact ⟨_, rfl, T3_h1 p0 q0 r0 p1 q1 r1 x y z w⟩
    · exact ⟨_, rfl, T3_h2 p0 q0 r0 p1 q1 r1 x y z w⟩
    · exact ⟨_, rfl, T3_h3 p0 q0 r0 p1 q1 r1 x y z w⟩
    · exact ⟨_, rfl, T3_h4 p0 q0 r0 p1 q1 r1 x y z w⟩
    · exact ⟨_, rfl, T3_h5 p0 q0 r0 p1 q1 r1 x y z w⟩
  · obtain rfl : v = 0 := by omega
    rcases h.resolve_right hv with rfl | rfl
    · exact ⟨_, rfl, T3_g3 p0 q0 r0 p1 q1 r1 x y z w⟩
    · exact ⟨_, rfl, T3_g4 p0 q0 r0 p1 q1 r1 x y z w⟩
theorem T3_halfC (p0 q0 r0 p1 q1 r1 : Int) (x y z : Int) (way : Int) (w : List Nat) (hw : w = [97] ∨ w = [98, 99, 100] ∨ w = [122, 122]) (h0 : 0 ≤ way) (h6 : way < 6) (h : ¬ (way = 3 ∨ way = 4)) : told 2 way (.str [100, 47, 99]) (.str [104]) [pot p0 q0 r0, pot p1 q1 r1, pot x y z, obT w, obN] = .ok (.str []) [pot p0 q0 r0, pot p1 q1 r1, pot x y z, obT w, obN] := by
  obtain rfl | rfl | rfl | rfl : way = 0 ∨ way = 1 ∨ way = 2 ∨ way = 5 := by omega
  · rcases hw with rfl | rfl | rfl
    · exact T3_c0A p0 q0 r0 p1 q1 r1 x y z
    · exact T3_c0B p0 q0 r0 p1 q1 r1 x y z
    · exact T3_c0Z p0 q0 r0 p1 q1 r1 x y z
  · rcases hw with rfl | rfl | rfl
    · exact T3_c1A p0 q0 r0 p1 q1 r1 x y z
    · exact T3_c1B p0 q0 r0 p1 q1 r1 x y z
    · exact T3_c1Z p0 q0 r0 p1 q1 r1 x y z
  · rcases hw with rfl | rfl | rfl
    · exact T3_c2A p0 q0 r0 p1 q1 r1 x y z
    · exact T3_c2B p0 q0 r0 p1 q1 r1 x y z
    · exact T3_c2Z p0 q0 r0 p1 q1 r1 x y z
  · rcases hw with rfl | rfl | rfl
    · exact T3_c5A p0 q0 r0 p1 q1 r1 x y z
    · exact T3_c5B p0 q0 r0 p1 q1 r1 x y z
    · exact T3_c5Z p0 q0 r0 p1 q1 r1 x y z
theorem T3_str (p0 q0 r0 p1 q1 r1 : Int) (x y z : Int) (v : Int) (w : List Nat) (g0 : 0 ≤ v) (g8 : v < 8) : ∃ u, atOf stranges v = some u ∧ told 2 5 sMain u [pot p0 q0 r0, pot p1 q1 r1, pot x y z, obT w, obN] = .ok (.str [104, 111, 115, 116]) [pot p0 q0 r0, pot p1 q1 r1, pot x y z, obT w, obN] := by
  obtain rfl | rfl | rfl | rfl | rfl | rfl | rfl | rfl : v = 0 ∨ v = 1 ∨ v = 2 ∨ v = 3 ∨ v = 4 ∨ v = 5 ∨ v = 6 ∨ v = 7 := by omega
  · exact ⟨_, rfl, T3_s0 p0 q0 r0 p1 q1 r1 x y z w⟩
  · exact ⟨_, rfl, T3_s1 p0 q0 r0 p1 q1 r1 x y z w⟩
  · exact ⟨_, rfl, T3_s2 p0 q0 r0 p1 q1 r1 x y z w⟩
  · exact ⟨_, rfl, T3_s3 p0 q0 r0 p1 q1 r1 x y z w⟩
  · exact ⟨_, rfl, T3_s4 p0 q0 r0 p1 q1 r1 x y z w⟩
  · exact ⟨_, rfl, T3_s5 p0 q0 r0 p1 q1 r1 x y z w⟩
  · exact ⟨_, rfl, T3_s6 p0 q0 r0 p1 q1 r1 x y z w⟩
  · exact ⟨_, rfl, T3_s7 p0 q0 r0 p1 q1 r1 x y z w⟩
theorem T3_F (p0 q0 r0 p1 q1 r1 : Int) (y : Int) (w : List Nat) (hw : w = [97] ∨ w = [98, 99, 100] ∨ w = [122, 122]) : ∃ M C, F 2 y w (fun x z => [pot p0 q0 r0, pot p1 q1 r1, pot x y z]) M C := by
  refine ⟨fun x z => [pot p0 q0 r0, pot p1 q1 r1, pot x y z, obT w], fun x z => [pot p0 q0 r0, pot p1 q1 r1, pot x y z, obT w, obN], fun _ _ => rfl, fun _ _ => rfl, fun _ _ _ _ => rfl, fun _ _ => rfl, fun _ _ _ _ => rfl, fun _ _ => rfl, fun x z => ?_, fun x z => T3_t2 p0 q0 r0 p1 q1 r1 x y z w, fun x z way h0 h6 => T3_main p0 q0 r0 p1 q1 r1 x y z way w hw h0 h6, fun x z way v bx h0 h6 g0 g9 => T3_odd p0 q0 r0 p1 q1 r1 x y z way v w bx h0 h6 g0 g9, fun x z way v h0 h6 g0 g2 h => T3_half p0 q0 r0 p1 q1 r1 x y z way v w h0 h6 g0 g2 h, fun x z way h0 h6 h => T3_halfC p0 q0 r0 p1 q1 r1 x y z way w hw h0 h6 h, fun x z v g0 g8 => T3_str p0 q0 r0 p1 q1 r1 x y z v w g0 g8, fun x z => ?_, hw⟩
  · rcases hw with rfl | rfl | rfl
    · exact T3_t1A p0 q0 r0 p1 q1 r1 x y z
    · exact T3_t1B p0 q0 r0 p1 q1 r1 x y z
    · exact T3_t1Z p0 q0 r0 p1 q1 r1 x y z
  · rcases hw with rfl | rfl | rfl
    · exact T3_fA p0 q0 r0 p1 q1 r1 x y z
    · exact T3_fB p0 q0 r0 p1 q1 r1 x y z
    · exact T3_fZ p0 q0 r0 p1 q1 r1 x y z
end PX
namespace PX
open PySem EV
theorem T4_t1A (p0 q0 r0 p1 q1 r1 p2 q2 r2 : Int) (x y z : Int) : callG G0 (callN G0 38) 4 ("Tree" : Str) [filT [97]] [] [] [pot p0 q0 r0, pot p1 q1 r1, pot p2 q2 r2, pot x y z] = .ok (.ref 4) [pot p0 q0 r0, pot p1 q1 r1, pot p2 q2 r2, pot x y z, obT [97]] := by kernel_rfl
theorem T4_t1B (p0 q0 r0 p1 q1 r1 p2 q2 r2 : Int) (x y z : Int) : callG G0 (callN G0 38) 4 ("Tree" : Str) [filT [98, 99, 100]] [] [] [pot p0 q0 r0, pot p1 q1 r1, pot p2 q2 r2, pot x y z] = .ok (.ref 4) [pot p0 q0 r0, pot p1 q1 r1, pot p2 q2 r2, pot x y z, obT [98, 99, 100]] := by kernel_rfl
theorem T4_t1Z (p0 q0 r0 p1 q1 r1 p2 q2 r2 : Int) (x y z : Int) : callG G0 (callN G0 38) 4 ("Tree" : Str) [filT [122, 122]] [] [] [pot p0 q0 r0, pot p1 q1 r1, pot p2 q2 r2, pot x y z] = .ok (.ref 4) [pot p0 q0 r0, pot p1 q1 r1, pot p2 q2 r2, pot x y z, obT [122, 122]] := by kernel_rfl
theorem T4_t2 (p0 q0 r0 p1 q1 r1 p2 q2 r2 : Int) (x y z : Int) (w : List Nat) : callG G0 (callN G0 38) 4 ("Tree" : Str) [filN] [] [] [pot p0 q0 r0, pot p1 q1 r1, pot p2 q2 r2, pot x y z, obT w] = .ok (.ref 5) [pot p0 q0 r0, pot p1 q1 r1, pot p2 q2 r2, pot x y z, obT w, obN] := by kernel_rfl
theorem T4_m0A (p0 q0 r0 p1 q1 r1 p2 q2 r2 : Int) (x y z : Int) : told 3 0 (.str [115, 47, 109, 97, 105, 110]) (.str [104]) [pot p0 q0 r0, pot p1 q1 r1, pot p2 q2 r2, pot x y z, obT [97], obN] = .ok (.str []) [pot p0 q0 r0, pot p1 q1 r1, pot p2 q2 r2, pot x y z, obT [97], obN] := by kernel_rfl
theorem T4_m0B (p0 q0 r0 p1 q1 r1 p2 q2 r2 : Int) (x y z : Int) : told 3 0 (.str [115, 47, 109, 97, 105, 110]) (.str [104]) [pot p0 q0 r0, pot p1 q1 r1, pot p2 q2 r2, pot x y z, obT [98, 99, 100], obN] = .ok (.str []) [pot p0 q0 r0, pot p1 q1 r1, pot p2 q2 r2, pot x y z, obT [98, 99, 100], obN] := by kernel_rfl
theorem T4_m0Z (p0 q0 r0 p1 q1 r1 p2 q2 r2 : Int) (x y z : Int) : told 3 0 (.str [115, 47, 109, 97, 105, 110]) (.str [104]) [pot p0 q0 r0, pot p1 q1 r1, pot p2 q2 r2, pot x y z, obT [122, 122], obN] = .ok (.str []) [pot p0 q0 r0, pot p1 q1 r1, pot p2 q2 r2, pot x y z, obT [122, 122], obN] := by kernel_rfl
theorem T4_o0_0 (p0 q0 r0 p1 q1 r1 p2 q2 r2 : Int) (x y z : Int) (w bx : List Nat) : told 3 0 (.str [100, 47, 98]) (.str bx) [pot p0 q0 r0, pot p1 q1 r1, pot p2 q2 r2, pot x y z, obT w, obN] = .ok (.str [112, 97, 116, 104]) [pot p0 q0 r0, pot p1 q1 r1, pot p2 q2 r2, pot x y z, obT w, obN] := by kernel_rfl
theorem T4_o0_1 (p0 q0 r0 p1 q1 r1 p2 q2 r2 : Int) (x y z : Int) (w bx : List Nat) : told 3 0 (.str []) (.str bx) [pot p0 q0 r0, pot p1 q1 r1, pot p2 q2 r2, pot x y z, obT w, obN] = .ok (.str [112, 97, 116, 104]) [pot p0 q0 r0, pot p1 q1 r1, pot p2 q2 r2, pot x y z, obT w, obN] := by kernel_rfl
theorem T4_o0_2 (p0 q0 r0 p1 q1 r1 p2 q2 r2 : Int) (x y z : Int) (w bx : List Nat) : told 3 0 (.non) (.str bx) [pot p0 q0 r0, pot p1 q1 r1, pot p2 q2 r2, pot x y z, obT w, obN] = .ok (.str [112, 97, 116, 104]) [pot p0 q0 r0, pot p1 q1 r1, pot p2 q2 r2, pot x y z, obT w, obN] := by kernel_rfl
theorem T4_o0_3 (p0 q0 r0 p1 q1 r1 p2 q2 r2 : Int) (x y z : Int) (w bx : List Nat) : told 3 0 (.int 0) (.str bx) [pot p0 q0 r0, pot p1 q1 r1, pot p2 q2 r2, pot x y z, obT w, obN] = .ok (.str [112, 97, 116, 104]) [pot p0 q0 r0, pot p1 q1 r1, pot p2 q2 r2, pot x y z, obT w, obN] := by kernel_rfl
theorem T4_o0_4 (p0 q0 r0 p1 q1 r1 p2 q2 r2 : Int) (x y z : Int) (w bx : List Nat) : told 3 0 (.tup [.str [115, 47, 109, 97, 105, 110]]) (.str bx) [pot p0 q0 r0, pot p1 q1 r1, pot p2 q2 r2, pot x y z, obT w, obN] = .ok (.str [112, 97, 116, 104]) [pot p0 q0 r0, pot p1 q1 r1, pot p2 q2 r2, pot x y z, obT w, obN] := by kernel_rfl
theorem T4_o0_5 (p0 q0 r0 p1 q1 r1 p2 q2 r2 : Int) (x y z : Int) (w bx : List Nat) : told 3 0 (.str [109, 97, 105, 110]) (.str bx) [pot p0 q0 r0, pot p1 q1 r1, pot p2 q2 r2, pot x y z, obT w, obN] = .ok (.str [112, 97, 116, 104]) [pot p0 q0 r0, pot p1 q1 r1, pot p2 q2 r2, pot x y z, obT w, obN] := by kernel_rfl
theorem T4_o0_6 (p0 q0 r0 p1 q1 r1 p2 q2 r2 : Int) (x y z : Int) (w bx : List Nat) : told 3 0 (.str [115, 47, 109, 97, 105, 110, 32]) (.str bx) [pot p0 q0 r0, pot p1 q1 r1, pot p2 q2 r2, pot x y z, obT w, obN] = .ok (.str [112, 97, 116, 104]) [pot p0 q0 r0, pot p1 q1 r1, pot p2 q2 r2, pot x y z, obT w, obN] := by kernel_rfl
theorem T4_o0_7 (p0 q0 r0 p1 q1 r1 p2 q2 r2 : Int) (x y z : Int) (w bx : List Nat) : told 3 0 (.lst [.str [115, 47, 109, 97, 105, 110]]) (.str bx) [pot p0 q0 r0, pot p1 q1 r1, pot p2 q2 r2, pot x y z, obT w, obN] = .ok (.str [112, 97, 116, 104]) [pot p0 q0 r0, pot p1 q1 r1, pot p2 q2 r2, pot x y z, obT w, obN] := by kernel_rfl
theorem T4_o0_8 (p0 q0 r0 p1 q1 r1 p2 q2 r2 : Int) (x y z : Int) (w bx : List Nat) : told 3 0 (.str [100, 47, 120]) (.str bx) [pot p0 q0 r0, pot p1 q1 r1, pot p2 q2 r2, pot x y z, obT w, obN] = .ok (.str [112, 97, 116, 104]) [pot p0 q0 r0, pot p1 q1 r1, pot p2 q2 r2, pot x y z, obT w, obN] := by kernel_rfl
theorem T4_h0 (p0 q0 r0 p1 q1 r1 p2 q2 r2 : Int) (x y z : Int) (w : List Nat) : told 3 0 (.str [100, 47, 101]) (.str [104]) [pot p0 q0 r0, pot p1 q1 r1, pot p2 q2 r2, pot x y z, obT w, obN] = .ok (.str [112, 97, 116, 104]) [pot p0 q0 r0, pot p1 q1 r1, pot p2 q2 r2, pot x y z, obT w, obN] := by kernel_rfl
theorem T4_c0A (p0 q0 r0 p1 q1 r1 p2 q2 r2 : Int) (x y z : Int) : told 3 0 (.str [100, 47, 99]) (.str [104]) [pot p0 q0 r0, pot p1 q1 r1, pot p2 q2 r2, pot x y z, obT [97], obN] = .ok (.str []) [pot p0 q0 r0, pot p1 q1 r1, pot p2 q2 r2, pot x y z, obT [97], obN] := by kernel_rfl
theorem T4_c0B (p0 q0 r0 p1 q1 r1 p2 q2 r2 : Int) (x y z : Int) : told 3 0 (.str [100, 47, 99]) (.str [104]) [pot p0 q0 r0, pot p1 q1 r1, pot p2 q2 r2, pot x y z, obT [98, 99, 100], obN] = .ok (.str []) [pot p0 q0 r0, pot p1 q1 r1, pot p2 q2 r2, pot x y z, obT [98, 99, 100], obN] := by kernel_rfl
theorem T4_c0Z (p0 q0 r0 p1 q1 r1 p2 q2 r2 : Int) (x y z : Int) : told 3 0 (.str [100, 47, 99]) (.str [104]) [pot p0 q0 r0, pot p1 q1 r1, pot p2 q2 r2, pot x y z, obT [122, 122], obN] = .ok (.str []) [pot p0 q0 r0, pot p1 q1 r1, pot p2 q2 r2, pot x y z, obT [122, 122], obN] := by kernel_rfl
theorem T4_m1A (p0 q0 r0 p1 q1 r1 p2 q2 r2 : Int) (x y z : Int) : told 3 1 (.str [115, 47, 109, 97, 105, 110]) (.str [104]) [pot p0 q0 r0, pot p1 q1 r1, pot p2 q2 r2, pot x y z, obT [97], obN] = .ok (.str []) [pot p0 q0 r0, pot p1 q1 r1, pot p2 q2 r2, pot x y z, obT [97], obN] := by kernel_rfl
theorem T4_m1B (p0 q0 r0 p1 q1 r1 p2 q2 r2 : Int) (x y z : Int) : told 3 1 (.str [115, 47, 109, 97, 105, 110]) (.str [104]) [pot p0 q0 r0, pot p1 q1 r1, pot p2 q2 r2, pot x y z, obT [98, 99, 100], obN] = .ok (.str []) [pot p0 q0 r0, pot p1 q1 r1, pot p2 q2 r2, pot x y z, obT [98, 99, 100], obN] := by kernel_rfl
theorem T4_m1Z (p0 q0 r0 p1 q1 r1 p2 q2 r2 : Int) (x y z : Int) : told 3 1 (.str [115, 47, 109, 97, 105, 110]) (.str [104]) [pot p0 q0 r0, pot p1 q1 r1, pot p2 q2 r2, pot x y z, obT [122, 122], obN] = .ok (.str []) [pot p0 q0 r0, pot p1 q1 r1, pot p2 q2 r2, pot x y z, obT [122, 122], obN] := by kernel_rfl
theorem T4_o1_0 (p0 q0 r0 p1 q1 r1 p2 q2 r2 : Int) (x y z : Int) (w bx : List Nat) : told 3 1 (.str [100, 47, 98]) (.str bx) [pot p0 q0 r0, pot p1 q1 r1, pot p2 q2 r2, pot x y z, obT w, obN] = .ok (.str [112, 97, 116, 104]) [pot p0 q0 r0, pot p1 q1 r1, pot p2 q2 r2, pot x y z, obT w, obN] := by kernel_rfl
theorem T4_o1_1 (p0 q0 r0 p1 q1 r1 p2 q2 r2 : Int) (x y z : Int) (w bx : List Nat) : told 3 1 (.str []) (.str bx) [pot p0 q0 r0, pot p1 q1 r1, pot p2 q2 r2, pot x y z, obT w, obN] = .ok (.str [112, 97, 116, 104]) [pot p0 q0 r0, pot p1 q1 r1, pot p2 q2 r2, pot x y z, obT w, obN] := by kernel_rfl
theorem T4_o1_2 (p0 q0 r0 p1 q1 r1 p2 q2 r2 : Int) (x y z : Int) (w bx : List Nat) : told 3 1 (.non) (.str bx) [pot p0 q0 r0, pot p1 q1 r1, pot p2 q2 r2, pot x y z, obT w, obN] = .ok (.str [112, 97, 116, 104]) [pot p0 q0 r0, pot p1 q1 r1, pot p2 q2 r2, pot x y z, obT w, obN] := by kernel_rfl
theorem T4_o1_3 (p0 q0 r0 p1 q1 r1 p2 q2 r2 : Int) (x y z : Int) (w bx : List Nat) : told 3 1 (.int 0) (.str bx) [pot p0 q0 r0, pot p1 q1 r1, pot p2 q2 r2, pot x y z, obT w, obN] = .ok (.str [112, 97, 116, 104]) [pot p0 q0 r0, pot p1 q1 r1, pot p2 q2 r2, pot x y z, obT w, obN] := by kernel_rfl
theorem T4_o1_4 (p0 q0 r0 p1 q1 r1 p2 q2 r2 : Int) (x y z : Int) (w bx : List Nat) : told 3 1 (.tup [.str [115, 47, 109, 97, 105, 110]]) (.str bx) [pot p0 q0 r0, pot p1 q1 r1, pot p2 q2 r2, pot x y z, obT w, obN] = .ok (.str [112, 97, 116, 104]) [pot p0 q0 r0, pot p1 q1 r1, pot p2 q2 r2, pot x y z, obT w, obN] := by kernel_rfl
theorem T4_o1_5 (p0 q0 r0 p1 q1 r1 p2 q2 r2 : Int) (x y z : Int) (w bx : List Nat) : told 3 1 (.str [109, 97, 105, 110]) (.str bx) [pot p0 q0 r0, pot p1 q1 r1, pot p2 q2 r2, pot x y z, obT w, obN] = .ok (.str [112, 97, 116, 104]) [pot p0 q0 r0, pot p1 q1 r1, pot p2 q2 r2, pot x y z, obT w, obN] := by kernel_rfl
theorem T4_o1_6 (p0 q0 r0 p1 q1 r1 p2 q2 r2 : Int) (x y z : Int) (w bx : List Nat) : told 3 1 (.str [115, 47, 109, 97, 105, 110, 32]) (.str bx) [pot p0 q0 r0, pot p1 q1 r1, pot p2 q2 r2, pot x y z, obT w, obN] = .ok (.str [112, 97, 116, 104]) [pot p0 q0 r0, pot p1 q1 r1, pot p2 q2 r2, pot x y z, obT w, obN] := by kernel_rfl
theorem T4_o1_7 (p0 q0 r0 p1 q1 r1 p2 q2 r2 : Int) (x y z : Int) (w bx : List Nat) : told 3 1 (.lst [.str [115, 47, 109, 97, 105, 110]]) (.str bx) [pot p0 q0 r0, pot p1 q1 r1, pot p2 q2 r2, pot x y z, obT w, obN] = .ok (.str [112, 97, 116, 104]) [pot p0 q0 r0, pot p1 q1 r1, pot p2 q2 r2, pot x y z, obT w, obN] := by kernel_rfl
theorem T4_o1_8 (p0 q0 r0 p1 q1 r1 p2 q2 r2 : Int) (x y z : Int) (w bx : List Nat) : told 3 1 (.str [100, 47, 120]) (.str bx) [pot p0 q0 r0, pot p1 q1 r1, pot p2 q2 r2, pot x y z, obT w, obN] = .ok (.str [112, 97, 116, 104]) [pot p0 q0 r0, pot p1 q1 r1, pot p2 q2 r2, pot x y z, obT w, obN] := by kernel_rfl
theorem T4_h1 (p0 q0 r0 p1 q1 r1 p2 q2 r2 : Int) (x y z : Int) (w : List Nat) : told 3 1 (.str [100, 47, 101]) (.str [104]) [pot p0 q0 r0, pot p1 q1 r1, pot p2 q2 r2, pot x y z, obT w, obN] = .ok (.str [112, 97, 116, 104]) [pot p0 q0 r0, pot p1 q1 r1, pot p2 q2 r2, pot x y z, obT w, obN] := by kernel_rfl
theorem T4_c1A (p0 q0 r0 p1 q1 r1 p2 q2 r2 : Int) (x y z : Int) : told 3 1 (.str [100, 47, 99]) (.str [104]) [pot p0 q0 r0, pot p1 q1 r1, pot p2 q2 r2, pot x y z, obT [97], obN] = .ok (.str []) [pot p0 q0 r0, pot p1 q1 r1, pot p2 q2 r2, pot x y z, obT [97], obN] := by kernel_rfl
theorem T4_c1B (p0 q0 r0 p1 q1 r1 p2 q2 r2 : Int) (x y z : Int) : told 3 1 (.str [100, 47, 99]) (.str [104]) [pot p0 q0 r0, pot p1 q1 r1, pot p2 q2 r2, pot x y z, obT [98, 99, 100], obN] = .ok (.str []) [pot p0 q0 r0, pot p1 q1 r1, pot p2 q2 r2, pot x y z, obT [98, 99, 100], obN] := by kernel_rfl
theorem T4_c1Z (p0 q0 r0 p1 q1 r1 p2 q2 r2 : Int) (x y z : Int) : told 3 1 (.str [100, 47, 99]) (.str [104]) [pot p0 q0 r0, pot p1 q1 r1, pot p2 q2 r2, pot x y z, obT [122, 122], obN] = .ok (.str []) [pot p0 q0 r0, pot p1 q1 r1, pot p2 q2 r2, pot x y z, obT [122, 122], obN] := by kernel_rfl
theorem T4_m2A (p0 q0 r0 p1 q1 r1 p2 q2 r2 : Int) (x y z : Int) : told 3 2 (.str [115, 47, 109, 97, 105, 110]) (.str [104]) [pot p0 q0 r0, pot p1 q1 r1, pot p2 q2 r2, pot x y z, obT [97], obN] = .ok (.str []) [pot p0 q0 r0, pot p1 q1 r1, pot p2 q2 r2, pot x y z, obT [97], obN] := by kernel_rfl
theorem T4_m2B (p0 q0 r0 p1 q1 r1 p2 q2 r2 : Int) (x y z : Int) : told 3 2 (.str [115, 47, 109, 97, 105, 110]) (.str [104]) [pot p0 q0 r0, pot p1 q1 r1, pot p2 q2 r2, pot x y z, obT [98, 99, 100], obN] = .ok (.str []) [pot p0 q0 r0, pot p1 q1 r1, pot p2 q2 r2, pot x y z, obT [98, 99, 100], obN] := by kernel_rfl
theorem T4_m2Z (p0 q0 r0 p1 q1 r1 p2 q2 r2 : Int) (x y z : Int) : told 3 2 (.str [115, 47, 109, 97, 105, 110]) (.str [104]) [pot p0 q0 r0, pot p1 q1 r1, pot p2 q2 r2, pot x y z, obT [122, 122], obN] = .ok (.str []) [pot p0 q0 r0, pot p1 q1 r1, pot p2 q2 r2, pot x y z, obT [122, 122], obN] := by kernel_rfl
theorem T4_o2_0 (p0 q0 r0 p1 q1 r1 p2 q2 r2 : Int) (x y z : Int) (w bx : List Nat) : told 3 2 (.str [100, 47, 98]) (.str bx) [pot p0 q0 r0, pot p1 q1 r1, pot p2 q2 r2, pot x y z, obT w, obN] = .ok (.str [112, 97, 116, 104]) [pot p0 q0 r0, pot p1 q1 r1, pot p2 q2 r2, pot x y z, obT w, obN] := by kernel_rfl
theorem T4_o2_1 (p0 q0 r0 p1 q1 r1 p2 q2 r2 : Int) (x y z : Int) (w bx : List Nat) : told 3 2 (.str []) (.str bx) [pot p0 q0 r0, pot p1 q1 r1, pot p2 q2 r2, pot x y z, obT w, obN] = .ok (.str [112, 97, 116, 104]) [pot p0 q0 r0, pot p1 q1 r1, pot p2 q2 r2, pot x y z, obT w, obN] := by kernel_rfl
theorem T4_o2_2 (p0 q0 r0 p1 q1 r1 p2 q2 r2 : Int) (x y z : Int) (w bx : List Nat) : told 3 2 (.non) (.str bx) [pot p0 q0 r0, pot p1 q1 r1, pot p2 q2 r2, pot x y z, obT w, obN] = .ok (.str [112, 97, 116, 104]) [pot p0 q0 r0, pot p1 q1 r1, pot p2 q2 r2, pot x y z, obT w, obN] := by kernel_rfl
theorem T4_o2_3 (p0 q0 r0 p1 q1 r1 p2 q2 r2 : Int) (x y z : Int) (w bx : List Nat) : told 3 2 (.int 0) (.str bx) [pot p0 q0 r0, pot p1 q1 r1, pot p2 q2 r2, pot x y z, obT w, obN] = .ok (.str [112, 97, 116, 104]) [pot p0 q0 r0, pot p1 q1 r1, pot p2 q2 r2, pot x y z, obT w, obN] := by kernel_rfl
theorem T4_o2_4 (p0 q0 r0 p1 q1 r1 p2 q2 r2 : Int) (x y z : Int) (w bx : List Nat) : told 3 2 (.tup [.str [115, 47, 109, 97, 105, 110]]) (.str bx) [pot p0 q0 r0, pot p1 q1 r1, pot p2 q2 r2, pot x y z, obT w, obN] = .ok (.str [112, 97, 116, 104]) [pot p0 q0 r0, pot p1 q1 r1, pot p2 q2 r2, pot x y z, obT w, obN] := by kernel_rfl
theorem T4_o2_5 (p0 q0 r0 p1 q1 r1 p2 q2 r2 : Int) (x y z : Int) (w bx : List Nat) : told 3 2 (.str [109, 97, 105, 110]) (.str bx) [pot p0 q0 r0, pot p1 q1 r1, pot p2 q2 r2, pot x y z, obT w, obN] = .ok (.str [112, 97, 116, 104]) [pot p0 q0 r0, pot p1 q1 r1, pot p2 q2 r2, pot x y z, obT w, obN] := by kernel_rfl
theorem T4_o2_6 (p0 q0 r0 p1 q1 r1 p2 q2 r2 : Int) (x y z : Int) (w bx : List Nat) : told 3 2 (.str [115, 47, 109, 97, 105, 110, 32]) (.str bx) [pot p0 q0 r0, pot p1 q1 r1, pot p2 q2 r2, pot x y z, obT w, obN] = .ok (.str [112, 97, 116, 104]) [pot p0 q0 r0, pot p1 q1 r1, pot p2 q2 r2, pot x y z, obT w, obN] := by kernel_rfl
theorem T4_o2_7 (p0 q0 r0 p1 q1 r1 p2 q2 r2 : Int) (x y z : Int) (w bx : List Nat) : told 3 2 (.lst [.str [115, 47, 109, 97, 105, 110]]) (.str bx) [pot p0 q0 r0, pot p1 q1 r1, pot p2 q2 r2, pot x y z, obT w, obN] = .ok (.str [112, 97, 116, 104]) [pot p0 q0 r0, pot p1 q1 r1, pot p2 q2 r2, pot x y z, obT w, obN] := by kernel_rfl
theorem T4_o2_8 (p0 q0 r0 p1 q1 r1 p2 q2 r2 : Int) (x y z : Int) (w bx : List Nat) : told 3 2 (.str [100, 47, 120]) (.str bx) [pot p0 q0 r0, pot p1 q1 r1, pot p2 q2 r2, pot x y z, obT w, obN] = .ok (.str [112, 97, 116, 104]) [pot p0 q0 r0, pot p1 q1 r1, pot p2 q2 r2, pot x y z, obT w, obN] := by kernel_rfl
theorem T4_h2 (p0 q0 r0 p1 q1 r1 p2 q2 r2 : Int) (x y z : Int) (w : List Nat) : told 3 2 (.str [100, 47, 101]) (.str [104]) [pot p0 q0 r0, pot p1 q1 r1, pot p2 q2 r2, pot x y z, obT w, obN] = .ok (.str [112, 97, 116, 104]) [pot p0 q0 r0, pot p1 q1 r1, pot p2 q2 r2, pot x y z, obT w, obN] := by kernel_rfl
theorem T4_c2A (p0 q0 r0 p1 q1 r1 p2 q2 r2 : Int) (x y z : Int) : told 3 2 (.str [100, 47, 99]) (.str [104]) [pot p0 q0 r0, pot p1 q1 r1, pot p2 q2 r2, pot x y z, obT [97], obN] = .ok (.str []) [pot p0 q0 r0, pot p1 q1 r1, pot p2 q2 r2, pot x y z, obT [97], obN] := by kernel_rfl
theorem T4_c2B (p0 q0 r0 p1 q1 r1 p2 q2 r2 : Int) (x y z : Int) : told 3 2 (.str [100, 47, 99]) (.str [104]) [pot p0 q0 r0, pot p1 q1 r1, pot p2 q2 r2, pot x y z, obT [98, 99, 100], obN] = .ok (.str []) [pot p0 q0 r0, pot p1 q1 r1, pot p2 q2 r2, pot x y z, obT [98, 99, 100], obN] := by kernel_rfl
theorem T4_c2Z (p0 q0 r0 p1 q1 r1 p2 q2 r2 : Int) (x y z : Int) : told 3 2 (.str [100, 47, 99]) (.str [104]) [pot p0 q0 r0, pot p1 q1 r1, pot p2 q2 r2, pot x y z, obT [122, 122], obN] = .ok (.str []) [pot p0 q0 r0, pot p1 q1 r1, pot p2 q2 r2, pot x y z, obT [122, 122], obN] := by kernel_rfl
theorem T4_m3A (p0 q0 r0 p1 q1 r1 p2 q2 r2 : Int) (x y z : Int) : told 3 3 (.str [115, 47, 109, 97, 105, 110]) (.str [104]) [pot p0 q0 r0, pot p1 q1 r1, pot p2 q2 r2, pot x y z, obT [97], obN] = .ok (.str []) [pot p0 q0 r0, pot p1 q1 r1, pot p2 q2 r2, pot x y z, obT [97], obN] := by kernel_rfl
theorem T4_m3B (p0 q0 r0 p1 q1 r1 p2 q2 r2 : Int) (x y z : Int) : told 3 3 (.str [115, 47, 109, 97, 105, 110]) (.str [104]) [pot p0 q0 r0, pot p1 q1 r1, pot p2 q2 r2, pot x y z, obT [98, 99, 100], obN] = .ok (.str []) [pot p0 q0 r0, pot p1 q1 r1, pot p2 q2 r2, pot x y z, obT [98, 99, 100], obN] := by kernel_rfl
theorem T4_m3Z (p0 q0 r0 p1 q1 r1 p2 q2 r2 : Int) (x y z : Int) : told 3 3 (.str [115, 47, 109, 97, 105, 110]) (.str [104]) [pot p0 q0 r0, pot p1 q1 r1, pot p2 q2 r2, pot x y z, obT [122, 122], obN] = .ok (.str []) [pot p0 q0 r0, pot p1 q1 r1, pot p2 q2 r2, pot x y z, obT [122, 122], obN] := by kernel_rfl
theorem T4_o3_0 (p0 q0 r0 p1 q1 r1 p2 q2 r2 : Int) (x y z : Int) (w bx : List Nat) : told 3 3 (.str [100, 47, 98]) (.str bx) [pot p0 q0 r0, pot p1 q1 r1, pot p2 q2 r2, pot x y z, obT w, obN] = .ok (.str [112, 97, 116, 104]) [pot p0 q0 r0, pot p1 q1 r1, pot p2 q2 r2, pot x y z, obT w, obN] := by kernel_rfl
theorem T4_o3_1 (p0 q0 r0 p1 q1 r1 p2 q2 r2 : Int) (x y z : Int) (w bx : List Nat) : told 3 3 (.str []) (.str bx) [pot p0 q0 r0, pot p1 q1 r1, pot p2 q2 r2, pot x y z, obT w, obN] = .ok (.str [112, 97, 116, 104]) [pot p0 q0 r0, pot p1 q1 r1, pot p2 q2 r2, pot x y z, obT w, obN] := by kernel_rfl
theorem T4_o3_2 (p0 q0 r0 p1 q1 r1 p2 q2 r2 : Int) (x y z : Int) (w bx : List Nat) : told 3 3 (.non) (.str bx) [pot p0 q0 r0, pot p1 q1 r1, pot p2 q2 r2, pot x y z, obT w, obN] = .ok (.str [112, 97, 116, 104]) [pot p0 q0 r0, pot p1 q1 r1, pot p2 q2 r2, pot x y z, obT w, obN] := by kernel_rfl
theorem T4_o3_3 (p0 q0 r0 p1 q1 r1 p2 q2 r2 : Int) (x y z : Int) (w bx : List Nat) : told 3 3 (.int 0) (.str bx) [pot p0 q0 r0, pot p1 q1 r1, pot p2 q2 r2, pot x y z, obT w, obN] = .ok (.str [112, 97, 116, 104]) [pot p0 q0 r0, pot p1 q1 r1, pot p2 q2 r2, pot x y z, obT w, obN] := by kernel_rfl
theorem T4_o3_4 (p0 q0 r0 p1 q1 r1 p2 q2 r2 : Int) (x y z : Int) (w bx : List Nat) : told 3 3 (.tup [.str [115, 47, 109, 97, 105, 110]]) (.str bx) [pot p0 q0 r0, pot p1 q1 r1, pot p2 q2 r2, pot x y z, obT w, obN] = .ok (.str [112, 97, 116, 104]) [pot p0 q0 r0, pot p1 q1 r1, pot p2 q2 r2, pot x y z, obT w, obN] := by kernel_rfl
theorem T4_o3_5 (p0 q0 r0 p1 q1 r1 p2 q2 r2 : Int) (x y z : Int) (w bx : List Nat) : told 3 3 (.str [109, 97, 105, 110]) (.str bx) [pot p0 q0 r0, pot p1 q1 r1, pot p2 q2 r2, pot x y z, obT w, obN] = .ok (.str [112, 97, 116, 104]) [pot p0 q0 r0, pot p1 q1 r1, pot p2 q2 r2, pot x y z, obT w, obN] := by kernel_rfl
theorem T4_o3_6 (p0 q0 r0 p1 q1 r1 p2 q2 r2 : Int) (x y z : Int) (w bx : List Nat) : told 3 3 (.str [115, 47, 109, 97, 105, 110, 32]) (.str bx) [pot p0 q0 r0, pot p1 q1 r1, pot p2 q2 r2, pot x y z, obT w, obN] = .ok (.str [112, 97, 116, 104]) [pot p0 q0 r0, pot p1 q1 r1, pot p2 q2 r2, pot x y z, obT w, obN] := by kernel_rfl
theorem T4_o3_7 (p0 q0 r0 p1 q1 r1 p2 q2 r2 : Int) (x y z : Int) (w bx : List Nat) : told 3 3 (.lst [.str [115, 47, 109, 97, 105, 110]]) (.str bx) [pot p0 q0 r0, pot p1 q1 r1, pot p2 q2 r2, pot x y z, obT w, obN] = .ok (.str [112, 97, 116, 104]) [pot p0 q0 r0, pot p1 q1 r1, pot p2 q2 r2, pot x y z, obT w, obN] := by kernel_rfl
theorem T4_o3_8 (p0 q0 r0 p1 q1 r1 p2 q2 r2 : Int) (x y z : Int) (w bx : List Nat) : told 3 3 (.str [100, 47, 120]) (.str bx) [pot p0 q0 r0, pot p1 q1 r1, pot p2 q2 r2, pot x y z, obT w, obN] = .ok (.str [112, 97, 116, 104]) [pot p0 q0 r0, pot p1 q1 r1, pot p2 q2 r2, pot x y z, obT w, obN] := by kernel_rfl
theorem T4_h3 (p0 q0 r0 p1 q1 r1 p2 q2 r2 : Int) (x y z : Int) (w : List Nat) : told 3 3 (.str [100, 47, 101]) (.str [104]) [pot p0 q0 r0, pot p1 q1 r1, pot p2 q2 r2, pot x y z, obT w, obN] = .ok (.str [112, 97, 116, 104]) [pot p0 q0 r0, pot p1 q1 r1, pot p2 q2 r2, pot x y z, obT w, obN] := by kernel_rfl
theorem T4_g3 (p0 q0 r0 p1 q1 r1 p2 q2 r2 : Int) (x y z : Int) (w : List Nat) : told 3 3 (.str [100, 47, 99]) (.str [104]) [pot p0 q0 r0, pot p1 q1 r1, pot p2 q2 r2, pot x y z, obT w, obN] = .ok (.str [112, 97, 116, 104]) [pot p0 q0 r0, pot p1 q1 r1, pot p2 q2 r2, pot x y z, obT w, obN] := by kernel_rfl
theorem T4_m4A (p0 q0 r0 p1 q1 r1 p2 q2 r2 : Int) (x y z : Int) : told 3 4 (.str [115, 47, 109, 97, 105, 110]) (.str [104]) [pot p0 q0 r0, pot p1 q1 r1, pot p2 q2 r2, pot x y z, obT [97], obN] = .ok (.str []) [pot p0 q0 r0, pot p1 q1 r1, pot p2 q2 r2, pot x y z, obT [97], obN] := by kernel_rfl
theorem T4_m4B (p0 q0 r0 p1 q1 r1 p2 q2 r2 : Int) (x y z : Int) : told 3 4 (.str [115, 47, 109, 97, 105, 110]) (.str [104]) [pot p0 q0 r0, pot p1 q1 r1, pot p2 q2 r2, pot x y z, obT [98, 99, 100], obN] = .ok (.str []) [pot p0 q0 r0, pot p1 q1 r1, pot p2 q2 r2, pot x y z, obT [98, 99, 100], obN] := by kernel_rfl
theorem T4_m4Z (p0 q0 r0 p1 q1 r1 p2 q2 r2 : Int) (x y z : Int) : told 3 4 (.str [115, 47, 109, 97, 105, 110]) (.str [104]) [pot p0 q0 r0, pot p1 q1 r1, pot p2 q2 r2, pot x y z, obT [122, 122], obN] = .ok (.str []) [pot p0 q0 r0, pot p1 q1 r1, pot p2 q2 r2, pot x y z, obT [122, 122], obN] := by kernel_rfl
theorem T4_o4_0 (p0 q0 r0 p1 q1 r1 p2 q2 r2 : Int) (x y z : Int) (w bx : List Nat) : told 3 4 (.str [100, 47, 98]) (.str bx) [pot p0 q0 r0, pot p1 q1 r1, pot p2 q2 r2, pot x y z, obT w, obN] = .ok (.str [112, 97, 116, 104]) [pot p0 q0 r0, pot p1 q1 r1, pot p2 q2 r2, pot x y z, obT w, obN] := by kernel_rfl
theorem T4_o4_1 (p0 q0 r0 p1 q1 r1 p2 q2 r2 : Int) (x y z : Int) (w bx : List Nat) : told 3 4 (.str []) (.str bx) [pot p0 q0 r0, pot p1 q1 r1, pot p2 q2 r2, pot x y z, obT w, obN] = .ok (.str [112, 97, 116, 104]) [pot p0 q0 r0, pot p1 q1 r1, pot p2 q2 r2, pot x y z, obT w, obN] := by kernel_rfl
theorem T4_o4_2 (p0 q0 r0 p1 q1 r1 p2 q2 r2 : Int) (x y z : Int) (w bx : List Nat) : told 3 4 (.non) (.str bx) [pot p0 q0 r0, pot p1 q1 r1, pot p2 q2 r2, pot x y z, obT w, obN] = .ok (.str [112, 97, 116, 104]) [pot p0 q0 r0, pot p1 q1 r1, pot p2 q2 r2, pot x y z, obT w, obN] := by kernel_rfl
theorem T4_o4_3 (p0 q0 r0 p1 q1 r1 p2 q2 r2 : Int) (x y z : Int) (w bx : List Nat) : told 3 4 (.int 0) (.str bx) [pot p0 q0 r0, pot p1 q1 r1, pot p2 q2 r2, pot x y z, obT w, obN] = .ok (.str [112, 97, 116, 104]) [pot p0 q0 r0, pot p1 q1 r1, pot p2 q2 r2, pot x y z, obT w, obN] := by kernel_rfl
theorem T4_o4_4 (p0 q0 r0 p1 q1 r1 p2 q2 r2 : Int) (x y z : Int) (w bx : List Nat) : told 3 4 (.tup [.str [115, 47, 109, 97, 105, 110]]) (.str bx) [pot p0 q0 r0, pot p1 q1 r1, pot p2 q2 r2, pot x y z, obT w, obN] = .ok (.str [112, 97, 116, 104]) [pot p0 q0 r0, pot p1 q1 r1, pot p2 q2 r2, pot x y z, obT w, obN] := by kernel_rfl
theorem T4_o4_5 (p0 q0 r0 p1 q1 r1 p2 q2 r2 : Int) (x y z : Int) (w bx : List Nat) : told 3 4 (.str [109, 97, 105, 110]) (.str bx) [pot p0 q0 r0, pot p1 q1 r1, pot p2 q2 r2, pot x y z, obT w, obN] = .ok (.str [112, 97, 116, 104]) [pot p0 q0 r0, pot p1 q1 r1, pot p2 q2 r2, pot x y z, obT w, obN] := by kernel_rfl
theorem T4_o4_6 (p0 q0 r0 p1 q1 r1 p2 q2 r2 : Int) (x y z : Int) (w bx : List Nat) : told 3 4 (.str [115, 47, 109, 97, 105, 110, 32]) (.str bx) [pot p0 q0 r0, pot p1 q1 r1, pot p2 q2 r2, pot x y z, obT w, obN] = .ok (.str [112, 97, 116, 104]) [pot p0 q0 r0, pot p1 q1 r1, pot p2 q2 r2, pot x y z, obT w, obN] := by kernel_rfl
theorem T4_o4_7 (p0 q0 r0 p1 q1 r1 p2 q2 r2 : Int) (x y z : Int) (w bx : List Nat) : told 3 4 (.lst [.str [115, 47, 109, 97, 105, 110]]) (.str bx) [pot p0 q0 r0, pot p1 q1 r1, pot p2 q2 r2, pot x y z, obT w, obN] = .ok (.str [112, 97, 116, 104]) [pot p0 q0 r0, pot p1 q1 r1, pot p2 q2 r2, pot x y z, obT w, obN] := by kernel_rfl
theorem T4_o4_8 (p0 q0 r0 p1 q1 r1 p2 q2 r2 : Int) (x y z : Int) (w bx : List Nat) : told 3 4 (.str [100, 47, 120]) (.str bx) [pot p0 q0 r0, pot p1 q1 r1, pot p2 q2 r2, pot x y z, obT w, obN] = .ok (.str [112, 97, 116, 104]) [pot p0 q0 r0, pot p1 q1 r1, pot p2 q2 r2, pot x y z, obT w, obN] := by kernel_rfl
theorem T4_h4 (p0 q0 r0 p1 q1 r1 p2 q2 r2 : Int) (x y z : Int) (w : List Nat) : told 3 4 (.str [100, 47, 101]) (.str [104]) [pot p0 q0 r0, pot p1 q1 r1, pot p2 q2 r2, pot x y z, obT w, obN] = .ok (.str [112, 97, 116, 104]) [pot p0 q0 r0, pot p1 q1 r1, pot p2 q2 r2, pot x y z, obT w, obN] := by kernel_rfl
theorem T4_g4 (p0 q0 r0 p1 q1 r1 p2 q2 r2 : Int) (x y z : Int) (w : List Nat) : told 3 4 (.str [100, 47, 99]) (.str [104]) [pot p0 q0 r0, pot p1 q1 r1, pot p2 q2 r2, pot x y z, obT w, obN] = .ok (.str [112, 97, 116, 104]) [pot p0 q0 r0, pot p1 q1 r1, pot p2 q2 r2, pot x y z, obT w, obN] := by kernel_rfl
theorem T4_m5A (p0 q0 r0 p1 q1 r1 p2 q2 r2 : Int) (x y z : Int) : told 3 5 (.str [115, 47, 109, 97, 105, 110]) (.str [104]) [pot p0 q0 r0, pot p1 q1 r1, pot p2 q2 r2, pot x y z, obT [97], obN] = .ok (.str []) [pot p0 q0 r0, pot p1 q1 r1, pot p2 q2 r2, pot x y z, obT [97], obN] := by kernel_rfl
theorem T4_m5B (p0 q0 r0 p1 q1 r1 p2 q2 r2 : Int) (x y z : Int) : told 3 5 (.str [115, 47, 109, 97, 105, 110]) (.str [104]) [pot p0 q0 r0, pot p1 q1 r1, pot p2 q2 r2, pot x y z, obT [98, 99, 100], obN] = .ok (.str []) [pot p0 q0 r0, pot p1 q1 r1, pot p2 q2 r2, pot x y z, obT [98, 99, 100], obN] := by kernel_rfl
theorem T4_m5Z (p0 q0 r0 p1 q1 r1 p2 q2 r2 : Int) (x y z : Int) : told 3 5 (.str [115, 47, 109, 97, 105, 110]) (.str [104]) [pot p0 q0 r0, pot p1 q1 r1, pot p2 q2 r2, pot x y z, obT [122, 122], obN] = .ok (.str []) [pot p0 q0 r0, pot p1 q1 r1, pot p2 q2 r2, pot x y z, obT [122, 122], obN] := by kernel_rfl
theorem T4_o5_0 (p0 q0 r0 p1 q1 r1 p2 q2 r2 : Int) (x y z : Int) (w bx : List Nat) : told 3 5 (.str [100, 47, 98]) (.str bx) [pot p0 q0 r0, pot p1 q1 r1, pot p2 q2 r2, pot x y z, obT w, obN] = .ok (.str [112, 97, 116, 104]) [pot p0 q0 r0, pot p1 q1 r1, pot p2 q2 r2, pot x y z, obT w, obN] := by kernel_rfl
theorem T4_o5_1 (p0 q0 r0 p1 q1 r1 p2 q2 r2 : Int) (x y z : Int) (w bx : List Nat) : told 3 5 (.str []) (.str bx) [pot p0 q0 r0, pot p1 q1 r1, pot p2 q2 r2, pot x y z, obT w, obN] = .ok (.str [112, 97, 116, 104]) [pot p0 q0 r0, pot p1 q1 r1, pot p2 q2 r2, pot x y z, obT w, obN] := by kernel_rfl
theorem T4_o5_2 (p0 q0 r0 p1 q1 r1 p2 q2 r2 : Int) (x y z : Int) (w bx : List Nat) : told 3 5 (.non) (.str bx) [pot p0 q0 r0, pot p1 q1 r1, pot p2 q2 r2, pot x y z, obT w, obN] = .ok (.str [112, 97, 116, 104]) [pot p0 q0 r0, pot p1 q1 r1, pot p2 q2 r2, pot x y z, obT w, obN] := by kernel_rfl
theorem T4_o5_3 (p0 q0 r0 p1 q1 r1 p2 q2 r2 : Int) (x y z : Int) (w bx : List Nat) : told 3 5 (.int 0) (.str bx) [pot p0 q0 r0, pot p1 q1 r1, pot p2 q2 r2, pot x y z, obT w, obN] = .ok (.str [112, 97, 116, 104]) [pot p0 q0 r0, pot p1 q1 r1, pot p2 q2 r2, pot x y z, obT w, obN] := by kernel_rfl
theorem T4_o5_4 (p0 q0 r0 p1 q1 r1 p2 q2 r2 : Int) (x y z : Int) (w bx : List Nat) : told 3 5 (.tup [.str [115, 47, 109, 97, 105, 110]]) (.str bx) [pot p0 q0 r0, pot p1 q1 r1, pot p2 q2 r2, pot x y z, obT w, obN] = .ok (.str [112, 97, 116, 104]) [pot p0 q0 r0, pot p1 q1 r1, pot p2 q2 r2, pot x y z, obT w, obN] := by kernel_rfl
theorem T4_o5_5 (p0 q0 r0 p1 q1 r1 p2 q2 r2 : Int) (x y z : Int) (w bx : List Nat) : told 3 5 (.str [109, 97, 105, 110]) (.str bx) [pot p0 q0 r0, pot p1 q1 r1, pot p2 q2 r2, pot x y z, obT w, obN] = .ok (.str [112, 97, 116, 104]) [pot p0 q0 r0, pot p1 q1 r1, pot p2 q2 r2, pot x y z, obT w, obN] := by kernel_rfl
theorem T4_o5_6 (p0 q0 r0 p1 q1 r1 p2 q2 r2 : Int) (x y z : Int) (w bx : List Nat) : told 3 5 (.str [115, 47, 109, 97, 105, 110, 32]) (.str bx) [pot p0 q0 r0, pot p1 q1 r1, pot p2 q2 r2, pot x y z, obT w, obN] = .ok (.str [112, 97, 116, 104]) [pot p0 q0 r0, pot p1 q1 r1, pot p2 q2 r2, pot x y z, obT w, obN] := by kernel_rfl
theorem T4_o5_7 (p0 q0 r0 p1 q1 r1 p2 q2 r2 : Int) (x y z : Int) (w bx : List Nat) : told 3 5 (.lst [.str [115, 47, 109, 97, 105, 110]]) (.str bx) [pot p0 q0 r0, pot p1 q1 r1, pot p2 q2 r2, pot x y z, obT w, obN] = .ok (.str [112, 97, 116, 104]) [pot p0 q0 r0, pot p1 q1 r1, pot p2 q2 r2, pot x y z, obT w, obN] := by kernel_rfl
theorem T4_o5_8 (p0 q0 r0 p1 q1 r1 p2 q2 r2 : Int) (x y z : Int) (w bx : List Nat) : told 3 5 (.str [100, 47, 120]) (.str bx) [pot p0 q0 r0, pot p1 q1 r1, pot p2 q2 r2, pot x y z, obT w, obN] = .ok (.str [112, 97, 116, 104]) [pot p0 q0 r0, pot p1 q1 r1, pot p2 q2 r2, pot x y z, obT w, obN] := by kernel_rfl
theorem T4_h5 (p0 q0 r0 p1 q1 r1 p2 q2 r2 : Int) (x y z : Int) (w : List Nat) : told 3 5 (.str [100, 47, 101]) (.str [104]) [pot p0 q0 r0, pot p1 q1 r1, pot p2 q2 r2, pot x y z, obT w, obN] = .ok (.str [112, 97, 116, 104]) [pot p0 q0 r0, pot p1 q1 r1, pot p2 q2 r2, pot x y z, obT w, obN] := by kernel_rfl
theorem T4_c5A (p0 q0 r0 p1 q1 r1 p2 q2 r2 : Int) (x y z : Int) : told 3 5 (.str [100, 47, 99]) (.str [104]) [pot p0 q0 r0, pot p1 q1 r1, pot p2 q2 r2, pot x y z, obT [97], obN] = .ok (.str []) [pot p0 q0 r0, pot p1 q1 r1, pot p2 q2 r2, pot x y z, obT [97], obN] := by kernel_rfl
theorem T4_c5B (p0 q0 r0 p1 q1 r1 p2 q2 r2 : Int) (x y z : Int) : told 3 5 (.str [100, 47, 99]) (.str [104]) [pot p0 q0 r0, pot p1 q1 r1, pot p2 q2 r2, pot x y z, obT [98, 99, 100], obN] = .ok (.str []) [pot p0 q0 r0, pot p1 q1 r1, pot p2 q2 r2, pot x y z, obT [98, 99, 100], obN] := by kernel_rfl
theorem T4_c5Z (p0 q0 r0 p1 q1 r1 p2 q2 r2 : Int) (x y z : Int) : told 3 5 (.str [100, 47, 99]) (.str [104]) [pot p0 q0 r0, pot p1 q1 r1, pot p2 q2 r2, pot x y z, obT [122, 122], obN] = .ok (.str []) [pot p0 q0 r0, pot p1 q1 r1, pot p2 q2 r2, pot x y z, obT [122, 122], obN] := by kernel_rfl
theorem T4_s0 (p0 q0 r0 p1 q1 r1 p2 q2 r2 : Int) (x y z : Int) (w : List Nat) : told 3 5 (.str [115, 47, 109, 97, 105, 110]) (.str []) [pot p0 q0 r0, pot p1 q1 r1, pot p2 q2 r2, pot x y z, obT w, obN] = .ok (.str [104, 111, 115, 116]) [pot p0 q0 r0, pot p1 q1 r1, pot p2 q2 r2, pot x y z, obT w, obN] := by kernel_rfl
theorem T4_s1 (p0 q0 r0 p1 q1 r1 p2 q2 r2 : Int) (x y z : Int) (w : List Nat) : told 3 5 (.str [115, 47, 109, 97, 105, 110]) (.non) [pot p0 q0 r0, pot p1 q1 r1, pot p2 q2 r2, pot x y z, obT w, obN] = .ok (.str [104, 111, 115, 116]) [pot p0 q0 r0, pot p1 q1 r1, pot p2 q2 r2, pot x y z, obT w, obN] := by kernel_rfl
theorem T4_s2 (p0 q0 r0 p1 q1 r1 p2 q2 r2 : Int) (x y z : Int) (w : List Nat) : told 3 5 (.str [115, 47, 109, 97, 105, 110]) (.str [72]) [pot p0 q0 r0, pot p1 q1 r1, pot p2 q2 r2, pot x y z, obT w, obN] = .ok (.str [104, 111, 115, 116]) [pot p0 q0 r0, pot p1 q1 r1, pot p2 q2 r2, pot x y z, obT w, obN] := by kernel_rfl
theorem T4_s3 (p0 q0 r0 p1 q1 r1 p2 q2 r2 : Int) (x y z : Int) (w : List Nat) : told 3 5 (.str [115, 47, 109, 97, 105, 110]) (.int 0) [pot p0 q0 r0, pot p1 q1 r1, pot p2 q2 r2, pot x y z, obT w, obN] = .ok (.str [104, 111, 115, 116]) [pot p0 q0 r0, pot p1 q1 r1, pot p2 q2 r2, pot x y z, obT w, obN] := by kernel_rfl
theorem T4_s4 (p0 q0 r0 p1 q1 r1 p2 q2 r2 : Int) (x y z : Int) (w : List Nat) : told 3 5 (.str [115, 47, 109, 97, 105, 110]) (.bl true) [pot p0 q0 r0, pot p1 q1 r1, pot p2 q2 r2, pot x y z, obT w, obN] = .ok (.str [104, 111, 115, 116]) [pot p0 q0 r0, pot p1 q1 r1, pot p2 q2 r2, pot x y z, obT w, obN] := by kernel_rfl
theorem T4_s5 (p0 q0 r0 p1 q1 r1 p2 q2 r2 : Int) (x y z : Int) (w : List Nat) : told 3 5 (.str [115, 47, 109, 97, 105, 110]) (.tup [.str [104]]) [pot p0 q0 r0, pot p1 q1 r1, pot p2 q2 r2, pot x y z, obT w, obN] = .ok (.str [104, 111, 115, 116]) [pot p0 q0 r0, pot p1 q1 r1, pot p2 q2 r2, pot x y z, obT w, obN] := by kernel_rfl
theorem T4_s6 (p0 q0 r0 p1 q1 r1 p2 q2 r2 : Int) (x y z : Int) (w : List Nat) : told 3 5 (.str [115, 47, 109, 97, 105, 110]) (.str [104, 49]) [pot p0 q0 r0, pot p1 q1 r1, pot p2 q2 r2, pot x y z, obT w, obN] = .ok (.str [104, 111, 115, 116]) [pot p0 q0 r0, pot p1 q1 r1, pot p2 q2 r2, pot x y z, obT w, obN] := by kernel_rfl
theorem T4_s7 (p0 q0 r0 p1 q1 r1 p2 q2 r2 : Int) (x y z : Int) (w : List Nat) : told 3 5 (.str [115, 47, 109, 97, 105, 110]) (.lst [.str [104]]) [pot p0 q0 r0, pot p1 q1 r1, pot p2 q2 r2, pot x y z, obT w, obN] = .ok (.str [104, 111, 115, 116]) [pot p0 q0 r0, pot p1 q1 r1, pot p2 q2 r2, pot x y z, obT w, obN] := by kernel_rfl
theorem T4_fA (p0 q0 r0 p1 q1 r1 p2 q2 r2 : Int) (x y z : Int) : callN G0 38 "told_apart" [.ref 4, .ref 5, sMain] 4 [pot p0 q0 r0, pot p1 q1 r1, pot p2 q2 r2, pot x y z, obT [97], obN] = .ok (.tup [.str [97], .str [107]]) [pot p0 q0 r0, pot p1 q1 r1, pot p2 q2 r2, pot x y z, obT [97], obN] := by kernel_rfl
theorem T4_fB (p0 q0 r0 p1 q1 r1 p2 q2 r2 : Int) (x y z : Int) : callN G0 38 "told_apart" [.ref 4, .ref 5, sMain] 4 [pot p0 q0 r0, pot p1 q1 r1, pot p2 q2 r2, pot x y z, obT [98, 99, 100], obN] = .ok (.tup [.str [97], .str [107]]) [pot p0 q0 r0, pot p1 q1 r1, pot p2 q2 r2, pot x y z, obT [98, 99, 100], obN] := by kernel_rfl
theorem T4_fZ (p0 q0 r0 p1 q1 r1 p2 q2 r2 : Int) (x y z : Int) : callN G0 38 "told_apart" [.ref 4, .ref 5, sMain] 4 [pot p0 q0 r0, pot p1 q1 r1, pot p2 q2 r2, pot x y z, obT [122, 122], obN] = .ok (.tup [.str [97], .str [107]]) [pot p0 q0 r0, pot p1 q1 r1, pot p2 q2 r2, pot x y z, obT [122, 122], obN] := by kernel_rfl
theorem T4_main (p0 q0 r0 p1 q1 r1 p2 q2 r2 : Int) (x y z : Int) (way : Int) (w : List Nat) (hw : w = [97] ∨ w = [98, 99, 100] ∨ w = [122, 122]) (h0 : 0 ≤ way) (h6 : way < 6) : told 3 way sMain (.str [104]) [pot p0 q0 r0, pot p1 q1 r1, pot p2 q2 r2, pot x y z, obT w, obN] = .ok (.str []) [pot p0 q0 r0, pot p1 q1 r1, pot p2 q2 r2, pot x y z, obT w, obN] := by
  obtain rfl | rfl | rfl | rfl | rfl | rfl : way = 0 ∨ way = 1 ∨ way = 2 ∨ way = 3 ∨ way = 4 ∨ way = 5 := by omega
  · rcases hw with rfl | rfl | rfl
    · exact T4_m0A p0 q0 r0 p1 q1 r1 p2 q2 r2 x y z
    · exact T4_m0B p0 q0 r0 p1 q1 r1 p2 q2 r2 x y z
    · exact T4_m0Z p0 q0 r0 p1 q1 r1 p2 q2 r2 x y z
  · rcases hw with rfl | rfl | rfl
    · exact T4_m1A p0 q0 r0 p1 q1 r1 p2 q2 r2 x y z
    · exact T4_m1B p0 q0 r0 p1 q1 r1 p2 q2 r2 x y z
    · exact T4_m1Z p0 q0 r0 p1 q1 r1 p2 q2 r2 x y z
  · rcases hw with rfl | rfl | rfl
    · exact T4_m2A p0 q0 r0 p1 q1 r1 p2 q2 r2 x y z
    · exact T4_m2B p0 q0 r0 p1 q1 r1 p2 q2 r2 x y z
    · exact T4_m2Z p0 q0 r0 p1 q1 r1 p2 q2 r2 x y z
  · rcases hw with rfl | rfl | rfl
    · exact T4_m3A p0 q0 r0 p1 q1 r1 p2 q2 r2 x y z
    · exact T4_m3B p0 q0 r0 p1 q1 r1 p2 q2 r2 x y z
    · exact T4_m3Z p0 q0 r0 p1 q1 r1 p2 q2 r2 x y z
  · rcases hw with rfl | rfl | rfl
    · exact T4_m4A p0 q0 r0 p1 q1 r1 p2 q2 r2 x y z
    · exact T4_m4B p0 q0 r0 p1 q1 r1 p2 q2 r2 x y z
    · exact T4_m4Z p0 q0 r0 p1 q1 r1 p2 q2 r2 x y z
  · rcases hw with rfl | rfl | rfl
    · exact T4_m5A p0 q0 r0 p1 q1 r1 p2 q2 r2 x y z
    · exact T4_m5B p0 q0 r0 p1 q1 r1 p2 q2 r2 x y z
    · exact T4_m5Z p0 q0 r0 p1 q1 r1 p2 q2 r2 x y z
theorem T4_odd (p0 q0 r0 p1 q1 r1 p2 q2 r2 : Int) (x y z : Int) (way v : Int) (w bx : List Nat) (h0 : 0 ≤ way) (h6 : way < 6) (g0 : 0 ≤ v) (g9 : v < 9) : ∃ u, atOf odds v = some u ∧ told 3 way u (.str bx) [pot p0 q0 r0, pot p1 q1 r1, pot p2 q2 r2, pot x y z, obT w, obN] = .ok sPath [pot p0 q0 r0, pot p1 q1 r1, pot p2 q2 r2, pot x y z, obT w, obN] := by
  obtain rfl | rfl | rfl | rfl | rfl | rfl : way = 0 ∨ way = 1 ∨ way = 2 ∨ way = 3 ∨ way = 4 ∨ way = 5 := by omega
  · obtain rfl | rfl | rfl | rfl | rfl | rfl | rfl | rfl | rfl : v = 0 ∨ v = 1 ∨ v = 2 ∨ v = 3 ∨ v = 4 ∨ v = 5 ∨ v = 6 ∨ v = 7 ∨ v = 8 := by omega
    · exact ⟨_, rfl, T4_o0_0 p0 q0 r0 p1 q1 r1 p2 q2 r2 x y z w bx⟩
    · exact ⟨_, rfl, T4_o0_1 p0 q0 r0 p1 q1 r1 p2 q2 r2 x y z w bx⟩
    · exact ⟨_, rfl, T4_o0_2 p0 q0 r0 p1 q1 r1 p2 q2 r2 x y z w bx⟩
    · exact ⟨_, rfl, T4_o0_3 p0 q0 r0 p1 q1 r1 p2 q2 r2 x y z w bx⟩
    · exact ⟨_, rfl, T4_o0_4 p0 q0 r0 p1 q1 r1 p2 q2 r2 x y z w bx⟩
    · exact ⟨_, rfl, T4_o0_5 p0 q0 r0 p1 q1 r1 p2 q2 r2 x y z w bx⟩
    · exact ⟨_, rfl, T4_o0_6 p0 q0 r0 p1 q1 r1 p2 q2 r2 x y z w bx⟩
    · exact ⟨_, rfl, T4_o0_7 p0 q0 r0 p1 q1 r1 p2 q2 r2 x y z w bx⟩
    · exact ⟨_, rfl, T4_o0_8 p0 q0 r0 p1 q1 r1 p2 q2 r2 x y z w bx⟩
  · obtain rfl | rfl | rfl | rfl | rfl | rfl | rfl | rfl | rfl : v = 0 ∨ v = 1 ∨ v = 2 ∨ v = 3 ∨ v = 4 ∨ v = 5 ∨ v = 6 ∨ v = 7 ∨ v = 8 := by omega
    · exact ⟨_, rfl, T4_o1_0 p0 q0 r0 p1 q1 r1 p2 q2 r2 x y z w bx⟩
    · exact ⟨_, rfl, T4_o1_1 p0 q0 r0 p1 q1 r1 p2 q2 r2 x y z w bx⟩
    · exact ⟨_, rfl, T4_o1_2 p0 q0 r0 p1 q1 r1 p2 q2 r2 x y z w bx⟩
    · exact ⟨_, rfl, T4_o1_3 p0 q0 r0 p1 q1 r1 p2 q2 r2 x y z w bx⟩
    · exact ⟨_, rfl, T4_o1_4 p0 q0 r0 p1 q1 r1 p2 q2 r2 x y z w bx⟩
    · exact ⟨_, rfl, T4_o1_5 p0 q0 r0 p1 q1 r1 p2 q2 r2 x y z w bx⟩
    · exact ⟨_, rfl, T4_o1_6 p0 q0 r0 p1 q1 r1 p2 q2 r2 x y z w bx⟩
    · exact ⟨_, rfl, T4_o1_7 p0 q0 r0 p1 q1 r1 p2 q2 r2 x y z w bx⟩
    · exact ⟨_, rfl, T4_o1_8 p0 q0 r0 p1 q1 r1 p2 q2 r2 x y z w bx⟩
  · obtain rfl | rfl | rfl | rfl | rfl | rfl | rfl | rfl | rfl : v = 0 ∨ v = 1 ∨ v = 2 ∨ v = 3 ∨ v = 4 ∨ v = 5 ∨ v = 6 ∨ v = 7 ∨ v = 8 := by omega
    · exact ⟨_, rfl, T4_o2_0 p0 q0 r0 p1 q1 r1 p2 q2 r2 x y z w bx⟩
    · exact ⟨_, rfl, T4_o2_1 p0 q0 r0 p1 q1 r1 p2 q2 r2 x y z w bx⟩
    · exact ⟨_, rfl, T4_o2_2 p0 q0 r0 p1 q1 r1 p2 q2 r2 x y z w bx⟩
    · exact ⟨_, rfl, T4_o2_3 p0 q0 r0 p1 q1 r1 p2 q2 r2 x y z w bx⟩
    · exact ⟨_, rfl, T4_o2_4 p0 q0 r0 p1 q1 r1 p2 q2 r2 x y z w bx⟩
    · exact ⟨_, rfl, T4_o2_5 p0 q0 r0 p1 q1 r1 p2 q2 r2 x y z w bx⟩
    · exact ⟨_, rfl, T4_o2_6 p0 q0 r0 p1 q1 r1 p2 q2 r2 x y z w bx⟩
    · exact ⟨_, rfl, T4_o2_7 p0 q0 r0 p1 q1 r1 p2 q2 r2 x y z w bx⟩
    · exact ⟨_, rfl, T4_o2_8 p0 q0 r0 p1 q1 r1 p2 q2 r2 x y z w bx⟩
  · obtain rfl | rfl | rfl | rfl | rfl | rfl | rfl | rfl | rfl : v = 0 ∨ v = 1 ∨ v = 2 ∨ v = 3 ∨ v = 4 ∨ v = 5 ∨ v = 6 ∨ v = 7 ∨ v = 8 := by omega
    · exact ⟨_, rfl, T4_o3_0 p0 q0 r0 p1 q1 r1 p2 q2 r2 x y z w bx⟩
    · exact ⟨_, rfl, T4_o3_1 p0 q0 r0 p1 q1 r1 p2 q2 r2 x y z w bx⟩
    · exact ⟨_, rfl, T4_o3_2 p0 q0 r0 p1 q1 r1 p2 q2 r2 x y z w bx⟩
    · exact ⟨_, rfl, T4_o3_3 p0 q0 r0 p1 q1 r1 p2 q2 r2 x y z w bx⟩
    · exact ⟨_, rfl, T4_o3_4 p0 q0 r0 p1 q1 r1 p2 q2 r2 x y z w bx⟩
    · exact ⟨_, rfl, T4_o3_5 p0 q0 r0 p1 q1 r1 p2 q2 r2 x y z w bx⟩
    · exact ⟨_, rfl, T4_o3_6 p0 q0 r0 p1 q1 r1 p2 q2 r2 x y z w bx⟩
    · exact ⟨_, rfl, T4_o3_7 p0 q0 r0 p1 q1 r1 p2 q2 r2 x y z w bx⟩
    · exact ⟨_, rfl, T4_o3_8 p0 q0 r0 p1 q1 r1 p2 q2 r2 x y z w bx⟩
  · obtain rfl | rfl | rfl | rfl | rfl | rfl | rfl | rfl | rfl : v = 0 ∨ v = 1 ∨ v = 2 ∨ v = 3 ∨ v = 4 ∨ v = 5 ∨ v = 6 ∨ v = 7 ∨ v = 8 := by omega
    · exact ⟨_, rfl, T4_o4_0 p0 q0 r0 p1 q1 r1 p2 q2 r2 x y z w bx⟩
    · exact ⟨_, rfl, T4_o4_1 p0 q0 r0 p1 q1 r1 p2 q2 r2 x y z w bx⟩
    · exact ⟨_, rfl, T4_o4_2 p0 q0 r0 p1 q1 r1 p2 q2 r2 x y z w bx⟩
    · exact ⟨_, rfl, T4_o4_3 p0 q0 r0 p1 q1 r1 p2 q2 r2 x y z w bx⟩
    · exact ⟨_, rfl, T4_o4_4 p0 q0 r0 p1 q1 r1 p2 q2 r2 x y z w bx⟩
    · exact ⟨_, rfl, T4_o4_5 p0 q0 r0 p1 q1 r1 p2 q2 r2 x y z w bx⟩
    · exact ⟨_, rfl, T4_o4_6 p0 q0 r0 p1 q1 r1 p2 q2 r2 x y z w bx⟩
    · exact ⟨_, rfl, T4_o4_7 p0 q0 r0 p1 q1 r1 p2 q2 r2 x y z w bx⟩
    · exact ⟨_, rfl, T4_o4_8 p0 q0 r0 p1 q1 r1 p2 q2 r2 x y z w bx⟩
  · obtain rfl | rfl | rfl | rfl | rfl | rfl | rfl | rfl | rfl : v = 0 ∨ v = 1 ∨ v = 2 ∨ v = 3 ∨ v = 4 ∨ v = 5 ∨ v = 6 ∨ v = 7 ∨ v = 8 := by omega
    · exact ⟨_, rfl, T4_o5_0 p0 q0 r0 p1 q1 r1 p2 q2 r2 x y z w bx⟩
    · exact ⟨_, rfl, T4_o5_1 p0 q0 r0 p1 q1 r1 p2 q2 r2 x y z w bx⟩
    · exact ⟨_, rfl, T4_o5_2 p0 q0 r0 p1 q1 r1 p2 q2 r2 x y z w bx⟩
    · exact ⟨_, rfl, T4_o5_3 p0 q0 r0 p1 q1 r1 p2 q2 r2 x y z w bx⟩
    · exact ⟨_, rfl, T4_o5_4 p0 q0 r0 p1 q1 r1 p2 q2 r2 x y z w bx⟩
    · exact ⟨_, rfl, T4_o5_5 p0 q0 r0 p1 q1 r1 p2 q2 r2 x y z w bx⟩
    · exact ⟨_, rfl, T4_o5_6 p0 q0 r0 p1 q1 r1 p2 q2 r2 x y z w bx⟩
    · exact ⟨_, rfl, T4_o5_7 p0 q0 r0 p1 q1 r1 p2 q2 r2 x y z w bx⟩
    · exact ⟨_, rfl, T4_o5_8 p0 q0 r0 p1 q1 r1 p2 q2 r2 x y z w bx⟩
theorem T4_half (p0 q0 r0 p1 q1 r1 p2 q2 r2 : Int) (x y z : Int) (way v : Int) (w : List Nat) (h0 : 0 ≤ way) (h6 : way < 6) (g0 : 0 ≤ v) (g2 : v < 2) (h : (way = 3 ∨ way = 4) ∨ v = 1) : ∃ u, atOf halves v = some u ∧ told 3 way u (.str [104]) [pot p0 q0 r0, pot p1 q1 r1, pot p2 q2 r2, pot x y z, obT w, obN] = .ok sPath [pot p0 q0 r0, pot p1 q1 r1, pot p2 q2 r2, pot x y z, obT w, obN] := by
  by_cases hv : v = 1
  · subst hv
    obtain rfl | rfl | rfl | rfl | rfl | rfl : way = 0 ∨ way = 1 ∨ way = 2 ∨ way = 3 ∨ way = 4 ∨ way = 5 := by omega
    · exact ⟨_, rfl, T4_h0 p0 q0 r0 p1 q1 r1 p2 q2 r2 x y z w⟩
    · exact ⟨_, rfl, T4_h1 p0 q0 r0 p1 q1 r1 p2 q2 r2 x y z w⟩
    · exact ⟨_, rfl, T4_h2 p0 q0 r0 p1 q1 r1 p2 q2 r2 x y z w⟩
    · exact ⟨_, rfl, T4_h3 p0 q0 r0 p1 q1 r1 p2 q2 r2 x y z w⟩
    · exact ⟨_, rfl, T4_h4 p0 q0 r0 p1 q1 r1 p2 q2 r2 x y z w⟩
    · exact ⟨_, rfl, T4_h5 p0 q0 r0 p1 q1 r1 p2 q2 r2 x y z w⟩
  · obtain rfl : v = 0 := by omega
    rcases h.resolve_right hv with rfl | rfl
    · exact ⟨_, rfl, T4_g3 p0 q0 r0 p1 q1 r1 p2 q2 r2 x y z w⟩
    · exact ⟨_, rfl, T4_g4 p0 q0 r0 p1 q1 r1 p2 q2 r2 x y z w⟩
theorem T4_halfC (p0 q0 r0 p1 q1 r1 p2 q2 r2 : Int) (x y z : Int) (way : Int) (w : List Nat) (hw : w = [97] ∨ w = [98, 99, 100] ∨ w = [122, 122]) (h0 : 0 ≤ way) (h6 : way < 6) (h : ¬ (way = 3 ∨ way = 4)) : told 3 way (.str [100, 47, 99]) (.str [104]) [pot p0 q0 r0, pot p1 q1 r1, pot p2 q2 r2, pot x y z, obT w, obN] = .ok (.str []) [pot p0 q0 r0, pot p1 q1 r1, pot p2 q2 r2, pot x y z, obT w, obN] := by
  obtain rfl | rfl | rfl | rfl : way = 0 ∨ way = 1 ∨ way = 2 ∨ way = 5 := by omega
  · rcases hw with rfl | rfl | rfl
    · exact T4_c0A p0 q0 r0 p1 q1 r1 p2 q2 r2 x y z
    · exact T4_c0B p0 q0 r0 p1 q1 r1 p2 q2 r2 x y z
    · exact T4_c0Z p0 q0 r0 p1 q1 r1 p2 q2 r2 x y z
  · rcases hw with rfl | rfl | rfl
    · exact T4_c1A p0 q0 r0 p1 q1 r1 p2 q2 r2 x y z
    · exact T4_c1B p0 q0 r0 p1 q1 r1 p2 q2 r2 x y z
    · exact T4_c1Z p0 q0 r0 p1 q1 r1 p2 q2 r2 x y z
  · rcases hw with rfl | rfl | rfl
    · exact T4_c2A p0 q0 r0 p1 q1 r1 p2 q2 r2 x y z
    · exact T4_c2B p0 q0 r0 p1 q1 r1 p2 q2 r2 x y z
    · exact T4_c2Z p0 q0 r0 p1 q1 r1 p2 q2 r2 x y z
  · rcases hw with rfl | rfl | rfl
    · exact T4_c5A p0 q0 r0 p1 q1 r1 p2 q2 r2 x y z
    · exact T4_c5B p0 q0 r0 p1 q1 r1 p2 q2 r2 x y z
    · exact T4_c5Z p0 q0 r0 p1 q1 r1 p2 q2 r2 x y z
theorem T4_str (p0 q0 r0 p1 q1 r1 p2 q2 r2 : Int) (x y z : Int) (v : Int) (w : List Nat) (g0 : 0 ≤ v) (g8 : v < 8) : ∃ u, atOf stranges v = some u ∧ told 3 5 sMain u [pot p0 q0 r0, pot p1 q1 r1, pot p2 q2 r2, pot x y z, obT w, obN] = .ok (.str [104, 111, 115, 116]) [pot p0 q0 r0, pot p1 q1 r1, pot p2 q2 r2, pot x y z, obT w, obN] := by
  obtain rfl | rfl | rfl | rfl | rfl | rfl | rfl | rfl : v = 0 ∨ v = 1 ∨ v = 2 ∨ v = 3 ∨ v = 4 ∨ v = 5 ∨ v = 6 ∨ v = 7 := by omega
  · exact ⟨_, rfl, T4_s0 p0 q0 r0 p1 q1 r1 p2 q2 r2 x y z w⟩
  · exact ⟨_, rfl, T4_s1 p0 q0 r0 p1 q1 r1 p2 q2 r2 x y z w⟩
  · exact ⟨_, rfl, T4_s2 p0 q0 r0 p1 q1 r1 p2 q2 r2 x y z w⟩
  · exact ⟨_, rfl, T4_s3 p0 q0 r0 p1 q1 r1 p2 q2 r2 x y z w⟩
  · exact ⟨_, rfl, T4_s4 p0 q0 r0 p1 q1 r1 p2 q2 r2 x y z w⟩
  · exact ⟨_, rfl, T4_s5 p0 q0 r0 p1 q1 r1 p2 q2 r2 x y z w⟩
  · exact ⟨_, rfl, T4_s6 p0 q0 r0 p1 q1 r1 p2 q2 r2 x y z w⟩
  · exact ⟨_, rfl, T4_s7 p0 q0 r0 p1 q1 r1 p2 q2 r2 x y z w⟩
theorem T4_F (p0 q0 r0 p1 q1 r1 p2 q2 r2 : Int) (y : Int) (w : List Nat) (hw : w = [97] ∨ w = [98, 99, 100] ∨ w = [122, 122]) : ∃ M C, F 3 y w (fun x z => [pot p0 q0 r0, pot p1 q1 r1, pot p2 q2 r2, pot x y z]) M C := by
  refine ⟨fun x z => [pot p0 q0 r0, pot p1 q1 r1, pot p2 q2 r2, pot x y z, obT w], fun x z => [pot p0 q0 r0, pot p1 q1 r1, pot p2 q2 r2, pot x y z, obT w, obN], fun _ _ => rfl, fun _ _ => rfl, fun _ _ _ _ => rfl, fun _ _ => rfl, fun _ _ _ _ => rfl, fun _ _ => rfl, fun x z => ?_, fun x z => T4_t2 p0 q0 r0 p1 q1 r1 p2 q2 r2 x y z w, fun x z way h0 h6 => T4_main p0 q0 r0 p1 q1 r1 p2 q2 r2 x y z way w hw h0 h6, fun x z way v bx h0 h6 g0 g9 => T4_odd p0 q0 r0 p1 q1 r1 p2 q2 r2 x y z way v w bx h0 h6 g0 g9, fun x z way v h0 h6 g0 g2 h => T4_half p0 q0 r0 p1 q1 r1 p2 q2 r2 x y z way v w h0 h6 g0 g2 h, fun x z way h0 h6 h => T4_halfC p0 q0 r0 p1 q1 r1 p2 q2 r2 x y z way w hw h0 h6 h, fun x z v g0 g8 => T4_str p0 q0 r0 p1 q1 r1 p2 q2 r2 x y z v w g0 g8, fun x z => ?_, hw⟩
  · rcases hw with rfl | rfl | rfl
    · exact T4_t1A p0 q0 r0 p1 q1 r1 p2 q2 r2 x y z
    · exact T4_t1B p0 q0 r0 p1 q1 r1 p2 q2 r2 x y z
    · exact T4_t1Z p0 q0 r0 p1 q1 r1 p2 q2 r2 x y z
  · rcases hw with rfl | rfl | rfl
    · exact T4_fA p0 q0 r0 p1 q1 r1 p2 q2 r2 x y z
    · exact T4_fB p0 q0 r0 p1 q1 r1 p2 q2 r2 x y z
    · exact T4_fZ p0 q0 r0 p1 q1 r1 p2 q2 r2 x y z
end PX
namespace PX
open PySem EV
theorem look_pot : G0.defs.lookup ("_law_pot" : Str) = some b__law_pot := by kernel_rfl
theorem look_law : G0.defs.lookup ("law" : Str) = some b_law := by kernel_rfl
theorem cg_pot (cl : CallF) (b : Nat) (v1 v2 : Val) (cs : Cells) : callG G0 cl b ("_law_pot" : Str) [v1, v2] [] [] cs = cl "_law_pot" [v1, v2] b cs := by kernel_rfl
theorem cg_right (cl : CallF) (b : Nat) (v1 : Val) (cs : Cells) : callG G0 cl b ("_law_right" : Str) [v1] [] [] cs = cl "_law_right" [v1] b cs := by kernel_rfl
theorem pw10 (cs : Cells) (k : Nat) (hk : k < 60) : opBin cs .Pow (.int 10) (.int k) = some (.int (10 ^ k)) := by
  unfold opBin
  have h1 : (0 : Int) ≤ k ∧ (k : Int) ≤ 100 ∧ bits 10 < 10000 := ⟨by omega, by omega, by decide⟩
  simp only [if_pos h1, Int.toNat_natCast]
theorem len_scr (cl : CallF) (b : Nat) (ns : List Int) (cs : Cells) : bltC G0 cl b .len [.scr ns] cs = .ok (.int ns.length) cs := rfl
theorem abs_int (cl : CallF) (b : Nat) (i : Int) (cs : Cells) : bltC G0 cl b .abs [.int i] cs = .ok (.int (if i < 0 then -i else i)) cs := rfl
theorem int_int (cl : CallF) (b : Nat) (i : Int) (cs : Cells) : bltC G0 cl b .int [.int i] cs = .ok (.int i) cs := rfl
theorem max_int (cl : CallF) (b : Nat) (i j : Int) (cs : Cells) : bltC G0 cl b .max [.int i, .int j] cs = .ok (.int (if j > i then j else i)) cs := rfl
theorem min_int (cl : CallF) (b : Nat) (i j : Int) (cs : Cells) : bltC G0 cl b .min [.int i, .int j] cs = .ok (.int (if j < i then j else i)) cs := rfl
theorem lt_int (cl : CallF) (b : Nat) (i j : Int) (cs : Cells) : cmpV G0 cl b .Lt (.int i) (.int j) cs = .ok (.bl (decide (i < j))) cs := rfl
theorem ix_scr (cs : Cells) (ns : List Int) (k : Nat) (h : k < ns.length) : opIdx cs (.scr ns) (.int k) = some (.int ns[k]) := by
  have e1 : opIdx cs (.scr ns) (.int k) = (atOf ns k).map .int := rfl
  have e2 : ixOf ns.length (k : Int) = some k := by
    unfold ixOf
    simp
    omega
  rw [e1]
  unfold atOf
  rw [e2]
  simp [h]
theorem sub_int (cs : Cells) (i j : Int) : opBin cs .Sub (.int i) (.int j) = some (.int (i - j)) := rfl
theorem add_int (cs : Cells) (i j : Int) : opBin cs .Add (.int i) (.int j) = some (.int (i + j)) := rfl
theorem call_rt {G : Gl} {n b : Nat} {f : Str} {d : Def} {vs : List Val} {cs cs' : Cells} {v : Val} (hl : G.defs.lookup f = some d) (hps : vs.length = d.ps.length) (h : evSs G (callN G n) (if d.keep then b else cs.length) d.keep d.body (vs.map some ++ List.replicate (d.n - vs.length) none) cs = .rt v cs') : callN G (n + 1) f vs b cs = .ok v cs' := by
  have e : callN G (n + 1) f vs b cs = (match G.defs.lookup f with
    | some d => runD G (callN G n) d vs b cs
    | none => .bad) := rfl
  rw [e, hl]
  show runD G (callN G n) d vs b cs = _
  unfold runD
  simp only
  rw [if_pos hps, h]
/-- a source of draws -/
theorem mkpot {n k b : Nat} {ns : List Int} {cs : Cells} (hk : k < 4) : ∃ x y, 0 ≤ y ∧ y < 2 ^ 200 ∧ callN G0 (n + 1) "_law_pot" [.scr ns, .int k] b cs = .ok (.ref cs.length) (cs ++ [pot x y 0]) := by
  have p18 : ∀ cs, opBin cs .Pow (.int 10) (.int 18) = some (.int 1000000000000000000) := fun cs => pw10 cs 18 (by omega)
  have p33 : ∀ cs, opBin cs .Pow (.int 10) (.int 33) = some (.int 1000000000000000000000000000000000) := fun cs => pw10 cs 33 (by omega)
  have md : ∀ (cs : Cells) (i : Int), opBin cs .Mod (.int i) (.int 1000000000000000000000000000000033) = some (.int (i % 1000000000000000000000000000000033)) := fun cs i => by
    unfold opBin
    simp only
    rw [if_pos (by omega)]
  have mu : ∀ cs, opBin cs .Mult (.int 524309) (.int k) = some (.int (524309 * k)) := fun cs => by
    obtain rfl | rfl | rfl | rfl : k = 0 ∨ k = 1 ∨ k = 2 ∨ k = 3 := by omega
    all_goals rfl
  have fin : ∀ c : Int, ∃ x y, 0 ≤ y ∧ y < 2 ^ 200 ∧ evSs G0 (callN G0 n) b true (.cons (.ret (.cell (.lst (.cons (.blt .max (.cons (.val (.int 0)) (.cons (.bin .Sub (.var 2) (.bin .Pow (.val (.int 10)) (.val (.int 18)))) .nil))) (.cons (.bin .Add (.bin .Mod (.blt .int (.cons (.var 2) .nil)) (.bin .Add (.bin .Pow (.val (.int 10)) (.val (.int 33))) (.val (.int 33)))) (.bin .Mult (.val (.int 524309)) (.var 1))) (.cons (.val (.int 0)) .nil)))))) .nil)
      [some (.scr ns), some (.int k), some (.int c)] cs = .rt (.ref cs.length) (cs ++ [pot x y 0]) := fun c => by
    refine ⟨if c - 1000000000000000000 > 0 then c - 1000000000000000000 else 0, c % 1000000000000000000000000000000033 + 524309 * k, ?_, ?_, ?_⟩
    · have := Int.emod_nonneg c (b := 1000000000000000000000000000000033) (by omega)
      omega
    · have := Int.emod_lt_of_pos c (b := 1000000000000000000000000000000033) (by omega)
      omega
    · simp [evSs, evS, evE, evEs, getS, EV.R.bind, EV.R.of, SR.ofR, p18, p33, md, mu, max_int, int_int, sub_int, add_int, mkL, EV.R.iff, EV.sizeOk, mkC, pot]
  have go : ∃ c : Int, evSs G0 (callN G0 n) b true b__law_pot.body [some (.scr ns), some (.int k), none] cs = evSs G0 (callN G0 n) b true (.cons (.ret (.cell (.lst (.cons (.blt .max (.cons (.val (.int 0)) (.cons (.bin .Sub (.var 2) (.bin .Pow (.val (.int 10)) (.val (.int 18)))) .nil))) (.cons (.bin .Add (.bin .Mod (.blt .int (.cons (.var 2) .nil)) (.bin .Add (.bin .Pow (.val (.int 10)) (.val (.int 33))) (.val (.int 33)))) (.bin .Mult (.val (.int 524309)) (.var 1))) (.cons (.val (.int 0)) .nil)))))) .nil)
      [some (.scr ns), some (.int k), some (.int c)] cs := by
    unfold b__law_pot
    simp only
    by_cases h : k < ns.length
    · refine ⟨if ns[k] < 0 then -ns[k] else ns[k], ?_⟩
      refine (ss_cons (s1 := [some (.scr ns), some (.int k), some (.int 0)]) (cs1 := cs) rfl).trans ?_
      refine (ss_cons (s1 := [some (.scr ns), some (.int k), some (.int (if ns[k] < 0 then -ns[k] else ns[k]))]) (cs1 := cs) ?_).trans rfl
      have hd : decide ((k : Int) < ns.length) = true := decide_eq_true (by omega)
      simp [evSs, evS, evE, evEs, getS, EV.R.bind, EV.R.of, SR.ofR, SR.ofO, EV.truthy, setT, len_scr, lt_int, ix_scr cs ns k h, int_int, abs_int, h]
    · refine ⟨0, ?_⟩
      refine (ss_cons (s1 := [some (.scr ns), some (.int k), some (.int 0)]) (cs1 := cs) rfl).trans ?_
      refine (ss_cons (s1 := [some (.scr ns), some (.int k), some (.int 0)]) (cs1 := cs) ?_).trans rfl
      simp [evSs, evS, evE, evEs, getS, EV.R.bind, EV.R.of, SR.ofR, SR.ofO, EV.truthy, setT, len_scr, lt_int, h]
  obtain ⟨c, ec⟩ := go
  obtain ⟨x, y, h1, h2, h3⟩ := fin c
  exact ⟨x, y, h1, h2, call_rt look_pot rfl (ec.trans h3)⟩
/-- the pots so far -/
def Pots (i : Nat) (cs : Cells) : Prop := ∃ l : List (Int × Int × Int), l.length = i ∧ cs = l.map fun p => pot p.1 p.2.1 p.2.2
theorem Pots.len {i : Nat} {cs : Cells} (h : Pots i cs) : cs.length = i := by
  obtain ⟨l, h, rfl⟩ := h
  rw [List.length_map, h]
theorem Pots.snoc {i : Nat} {cs : Cells} (h : Pots i cs) (x y z : Int) : Pots (i + 1) (cs ++ [pot x y z]) := by
  obtain ⟨l, h, rfl⟩ := h
  refine ⟨l ++ [(x, y, z)], ?_, ?_⟩
  · rw [List.length_append, h]
    rfl
  · rw [List.map_append]
    rfl
/-- the pass with any number of pots -/
def RightOk : Prop := ∀ (i : Nat) (cs : Cells), i < 4 → Pots i cs → ∀ x y z : Int, ∀ b : Nat, 0 ≤ y → y < 2 ^ 200 → 0 ≤ z → z < 2 ^ 40 → ∃ x' z', 0 ≤ z' ∧ z' ≤ z + 30 ∧ callN G0 39 "_law_right" [.ref i] b (cs ++ [pot x y z]) = .ok (.bl true) (cs ++ [pot x' y z'])
theorem not_true_ (cs : Cells) : EV.truthy cs (.bl true) = some true := rfl
def bodyK : Ss := match b_law.body with
  | .cons (.for_ _ _ b) _ => b
  | _ => .nil
def bodyL : Ss := match bodyK with
  | .cons _ (.cons (.for_ _ _ b) _) => b
  | _ => .nil
theorem lap (R : RightOk) {i : Nat} {cs : Cells} (hi : i < 4) (hp : Pots i cs) {ns : List Int} {x y z : Int} (hy : 0 ≤ y) (hy2 : y < 2 ^ 200) (hz : 0 ≤ z) (hz2 : z < 2 ^ 40) (o : Option Val) :
    ∃ x' z', 0 ≤ z' ∧ z' ≤ z + 30 ∧ evSs G0 (callN G0 39) 0 false bodyL [some (.scr ns), some (.int i), some (.ref i), o] (cs ++ [pot x y z]) = .nx [some (.scr ns), some (.int i), some (.ref i), o] (cs ++ [pot x' y z']) := by
  obtain ⟨x', z', h1, h2, e⟩ := R i cs hi hp x y z 0 hy hy2 hz hz2
  refine ⟨x', z', h1, h2, ?_⟩
  unfold bodyL bodyK b_law
  simp only
  refine (ss_cons (s1 := [some (.scr ns), some (.int i), some (.ref i), o]) (cs1 := cs ++ [pot x' y z']) ?_).trans rfl
  simp [evSs, evS, evE, evEs, getS, EV.R.bind, EV.R.of, SR.ofR, SR.ofO, EV.truthy, cg_right, e]
theorem at_rng {cs : Cells} {n i : Nat} (h : i < n) : Src.at_ cs ⟨rangeV 0 n, none⟩ i = some (.int i) := range_at h
theorem loop_step {src : Src} {st : Val → Cells → LSt → Option LSt} {bd : LSt → Cells → SR} {n i : Nat} {s s1 s2 : LSt} {cs cs1 : Cells} {v : Val} (h : src.at_ cs i = some v) (g : st v cs s = some s1) (k : bd s1 cs = .nx s2 cs1) : loopF src st bd (n + 1) i s cs = loopF src st bd n (i + 1) s2 cs1 := by
  show (match src.at_ cs i with
    | none => SR.bad
    | some v => match st v cs s with
      | none => .bad
      | some s => match bd s cs with
        | .nx s cs => loopF src st bd n (i + 1) s cs
        | .ct s cs => loopF src st bd n (i + 1) s cs
        | .bk s cs => .nx s cs
        | r => r) = _
  rw [h]
  show (match st v cs s with
      | none => SR.bad
      | some s => match bd s cs with
        | .nx s cs => loopF src st bd n (i + 1) s cs
        | .ct s cs => loopF src st bd n (i + 1) s cs
        | .bk s cs => .nx s cs
        | r => r) = _
  rw [g]
  show (match bd s1 cs with
        | .nx s cs => loopF src st bd n (i + 1) s cs
        | .ct s cs => loopF src st bd n (i + 1) s cs
        | .bk s cs => .nx s cs
        | r => r) = _
  rw [k]
/-- one number of the script -/
theorem lawturn (R : RightOk) {i : Nat} {cs : Cells} (hi : i < 4) (hp : Pots i cs) {ns : List Int} (o2 o3 : Option Val) :
    ∃ cs' o2' o3', Pots (i + 1) cs' ∧ evSs G0 (callN G0 39) 0 false bodyK [some (.scr ns), some (.int i), o2, o3] cs = .nx [some (.scr ns), some (.int i), o2', o3'] cs' := by
  obtain ⟨x, y, hy, hy2, ep⟩ := mkpot (n := 38) (b := 0) (ns := ns) (cs := cs) hi
  have ep : callN G0 39 "_law_pot" [.scr ns, .int i] 0 cs = .ok (.ref i) (cs ++ [pot x y 0]) := by
    rw [← hp.len]
    rw [hp.len]
    have := ep
    rw [hp.len] at this
    exact this
  obtain ⟨x1, z1, a1, a2, e1⟩ := lap R hi hp (ns := ns) (x := x) hy hy2 (Int.le_refl 0) (by omega) (some (.int 0))
  obtain ⟨x2, z2, b1, b2, e2⟩ := lap R hi hp (ns := ns) (x := x1) hy hy2 a1 (by omega) (some (.int 1))
  refine ⟨cs ++ [pot x2 y z2], some (.ref i), some (.int 1), hp.snoc x2 y z2, ?_⟩
  have h1 : evS G0 (callN G0 39) 0 false (.asg (.nm 2) (.cll "_law_pot" (.cons (.var 0) (.cons (.var 1) .nil)) [] .nil)) [some (.scr ns), some (.int i), o2, o3] cs = .nx [some (.scr ns), some (.int i), some (.ref i), o3] (cs ++ [pot x y 0]) :=
    asg_e (ev_cll rfl rfl ((cg_pot _ _ _ _ _).trans ep))
  have h2 : evS G0 (callN G0 39) 0 false (.for_ (.nm 3) (.rng1 (.val (.int 2))) bodyL) [some (.scr ns), some (.int i), some (.ref i), o3] (cs ++ [pot x y 0]) = .nx [some (.scr ns), some (.int i), some (.ref i), some (.int 1)] (cs ++ [pot x2 y z2]) := by
    refine for_rng (n := 2) rfl (by omega) ?_
    rw [loop_step (at_rng (by omega)) rfl e1, loop_step (at_rng (by omega)) rfl e2]
    rfl
  unfold bodyK b_law
  simp only
  exact (ss_cons h1).trans ((ss_cons h2).trans rfl)
theorem lawturns (R : RightOk) {n : Nat} (hn : n ≤ 4) {ns : List Int} : ∀ (m i : Nat) {cs : Cells} (o1 o2 o3 : Option Val), m + i = n → Pots i cs →
    ∃ cs' o1' o2' o3', loopF ⟨rangeV 0 n, none⟩ (fun v cs s => setT cs (.nm 1) v s) (fun s cs => evSs G0 (callN G0 39) 0 false bodyK s cs) m i [some (.scr ns), o1, o2, o3] cs = .nx [some (.scr ns), o1', o2', o3'] cs'
  | 0, i, cs, o1, o2, o3, _, _ => ⟨cs, o1, o2, o3, rfl⟩
  | m + 1, i, cs, o1, o2, o3, h, hp => by
    obtain ⟨cs1, p2, p3, hp1, e1⟩ := lawturn R (by omega) hp (ns := ns) o2 o3
    obtain ⟨cs2, q1, q2, q3, e2⟩ := lawturns R hn m (i + 1) (some (.int i)) p2 p3 (by omega) hp1
    refine ⟨cs2, q1, q2, q3, ?_⟩
    rw [loop_step (at_rng (by omega)) rfl e1]
    exact e2
theorem law_ok (R : RightOk) (ns : List Int) : ∃ cs, callN G0 40 "law" [.scr ns] 0 [] = .ok (.bl true) cs := by
  have hn : ∃ n : Nat, n ≤ 4 ∧ (if (if (ns.length : Int) < 4 then (ns.length : Int) else 4) > 1 then (if (ns.length : Int) < 4 then (ns.length : Int) else 4) else 1) = (n : Int) := by
    by_cases h1 : (ns.length : Int) < 4
    · rw [if_pos h1]
      by_cases h2 : (ns.length : Int) > 1
      · rw [if_pos h2]
        exact ⟨ns.length, by omega, rfl⟩
      · rw [if_neg h2]
        exact ⟨1, by omega, rfl⟩
    · rw [if_neg h1, if_pos (by omega)]
      exact ⟨4, by omega, rfl⟩
  obtain ⟨n, hn4, en⟩ := hn
  obtain ⟨cs1, o1, o2, o3, e⟩ := lawturns R hn4 (ns := ns) n 0 (cs := []) none none none rfl ⟨[], rfl, rfl⟩
  refine ⟨cs1.take 0, call_rt look_law rfl ?_⟩
  have h0 : evE G0 (callN G0 39) 0 (.blt .max (.cons (.val (.int 1)) (.cons (.blt .min (.cons (.val (.int 4)) (.cons (.blt .len (.cons (.var 0) .nil)) .nil))) .nil))) [some (.scr ns), none, none, none] [] = .ok (.int n) [] := by
    rw [← en]
    simp [evE, evEs, getS, EV.R.bind, EV.R.of, len_scr, min_int, max_int]
  have h1 : evS G0 (callN G0 39) 0 false (.for_ (.nm 1) (.rng1 (.blt .max (.cons (.val (.int 1)) (.cons (.blt .min (.cons (.val (.int 4)) (.cons (.blt .len (.cons (.var 0) .nil)) .nil))) .nil)))) bodyK) [some (.scr ns), none, none, none] [] = .nx [some (.scr ns), o1, o2, o3] cs1 := for_rng h0 (by omega) e
  exact (ss_cons h1).trans rfl
end PX
namespace PX
open PySem EV
theorem right_ok : RightOk := fun i cs hi hp x y z b hy hy2 hz hz2 => by
  obtain ⟨l, hl, rfl⟩ := hp
  obtain rfl | rfl | rfl | rfl : i = 0 ∨ i = 1 ∨ i = 2 ∨ i = 3 := by omega
  · obtain rfl : l = [] := List.length_eq_zero_iff.mp hl
    exact right (a := 0) (cs0 := fun x z => [pot x y z]) (fun w hw => T1_F y w hw) (fun _ _ => rfl) (fun _ _ _ _ => rfl) (fun _ _ => rfl) hy hy2 hz hz2
  · match l, hl with
    | [(p0, q0, r0)], _ => exact right (a := 1) (cs0 := fun x z => [pot p0 q0 r0, pot x y z]) (fun w hw => T2_F p0 q0 r0 y w hw) (fun _ _ => rfl) (fun _ _ _ _ => rfl) (fun _ _ => rfl) hy hy2 hz hz2
  · match l, hl with
    | [(p0, q0, r0), (p1, q1, r1)], _ => exact right (a := 2) (cs0 := fun x z => [pot p0 q0 r0, pot p1 q1 r1, pot x y z]) (fun w hw => T3_F p0 q0 r0 p1 q1 r1 y w hw) (fun _ _ => rfl) (fun _ _ _ _ => rfl) (fun _ _ => rfl) hy hy2 hz hz2
  · match l, hl with
    | [(p0, q0, r0), (p1, q1, r1), (p2, q2, r2)], _ => exact right (a := 3) (cs0 := fun x z => [pot p0 q0 r0, pot p1 q1 r1, pot p2 q2 r2, pot x y z]) (fun w hw => T4_F p0 q0 r0 p1 q1 r1 p2 q2 r2 y w hw) (fun _ _ => rfl) (fun _ _ _ _ => rfl) (fun _ _ => rfl) hy hy2 hz hz2
theorem law_true (ns : List Int) : ∃ cs, callN prg.G 40 "law" [.scr ns] 0 [] = .ok (.bl true) cs := by
  rw [G_eq]
  exact law_ok right_ok ns
theorem k66 : PySem.Challenge.rw_furtherfile_k66_alike_refused.Holds := PX.holds fun ns _ => law_true ns
end PX
theorem PySem.Challenge.cw_furtherfile_k66_alike_refused_holds : PySem.Challenge.rw_furtherfile_k66_alike_refused.Holds :=
  PX.k66
