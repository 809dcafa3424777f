import PyProof.Rows.All
import Wide.All
import OpenK.AllK
import Wide.FinOn
import KE.KUnpackStar
import HandS.Base
import HandS.Call
import HandS.ForMost
import HandS.DeepEq
import HandS.CallLocal
import HandS.IsInst
import HandS.Style
import HandS.Wide
import HandS.Replace
import HandS.NoneIn
import PySem.Challenge.RW_rowlift_k29_whole_statements_do_as_rows
set_option Elab.async false
set_option linter.all false
set_option maxRecDepth 100000
set_option maxHeartbeats 4000000
namespace Rwl
open PySem PySem.Spec PyProof.Rows L2

section
variable {prog : Program} {w : World} {A : Around} {E : Value → Shared → Prop} {s : Shared}
theorem take_rest {t : Addr} {its : Array Value} {Q : List Value → Shared → Prop} (calm : A.handled = none) (tu : IsTup s.heap t its) (p0 : 1 ≤ its.size) (pz : its.size ≤ sizeLine)
    (go : ∀ (g : Heap) (k : Nat), (∀ b o, s.heap.get? b = some o → g.get? b = some o) →
      Q (its.toList.take 1 ++ [Value.ref g.objs.size]) { s with heap := g.push { cls := .type "list", data := .seq (its.toList.drop 1).toArray }, toks := k }) :
    wpAny (model prog w) A (unpackItems (.ref t) 2 (some 1)) Q E s := by
  have tlt : t < s.heap.objs.size := tu.lt
  have tne : t ≠ s.heap.objs.size := Nat.ne_of_lt tlt
  unfold unpackItems notIterableAtAll
  apply wpAny_bind
  apply wpAny_bind
  apply wpAny_specialOf tu.typeIs slot_tuple_iter.lookup
  apply wpAny_pure
  simp only [Bool.false_eq_true, if_false]
  apply wpAny_bind
  apply wpAny_holding
  apply iter_tuple tu
  apply wpAny_bind
  apply wpAny_holding
  apply draw_tuple tne 1 0 _ _ ⟨_, Heap.get?_push_size _ rfl, rfl, rfl⟩ (tu.push _) (by omega)
  intro g1 turned but1
  have tu1 : IsTup g1 t its := (tu.push _).extBut but1.extBut tne
  have l1 : (List.take 1 (List.drop 0 its.toList)).length = 1 := by simp; omega
  rw [l1, if_neg (by omega)]
  apply wpAny_bind
  apply wpAny_holding
  obtain ⟨oi, goi, _⟩ := id turned
  obtain ⟨ot, got, _⟩ := id tu1
  apply PySem.W.kun_collect (s := { s with heap := g1 }) (T := "tuple_iterator") (.inr (.inr (.inr rfl))) (Walks.tuple (A := A.in1) calm s.heap.objs.size t tne its) (fun _ _ st => st.1.typeIs) (k := 1) p0 ⟨turned, tu1⟩ (Heap.lt_size goi) (Heap.lt_size got) _ pz
  intro g2 tk keep2
  have l2 : (its.toList.drop 1).length = its.size - 1 := by simp
  rw [if_neg (by omega)]
  apply wpAny_bind
  rw [show (its.toList.drop 1).length - (2 - 1 - 1) = (its.toList.drop 1).length by omega, List.take_length, List.drop_length]
  refine wpAny_newList ?_ (by rw [l2]; omega)
  apply wpAny_pure
  rw [List.append_nil]
  refine go g2 tk fun b o e => ?_
  have nb : b ≠ s.heap.objs.size := Nat.ne_of_lt (Heap.lt_size e)
  exact keep2 b o nb (but1.extBut b o nb (Heap.get?_push_of_some _ e))
end

section
variable {X : Cx}
/-- a, *b = a tuple -/
def gStar (K : PySem.W.Frag) (g1 g2 : TG) : TG := fun v σ H Q => ∃ t x r, v = .ref t ∧ SqT K H t (x :: r) ∧ ∀ p, H p = none → g1 x σ (upd H p (.lst r)) fun σ1 H1 => g2 (.ref p) σ1 H1 Q
theorem pg_star {e1 e2 : Expr} {k : Nat} {ps pos : Pos} {g1 g2 : TG} (hc : X.calm = true) (h1 : PG X e1 g1) (h2 : PG X e2 g2)
    (he : assignEach [e1, .Starred e2 ps] X.env = [(false, assign e1 X.env), (true, assign e2 X.env)] := by rfl) :
    PG X (.Tuple [e1, .Starred e2 ps] k pos) (gStar X.K g1 g2) := by
  refine ⟨fun pins s σ H v u Q I r hw => ?_⟩
  obtain ⟨t, x, xs, e, hq, hw⟩ := hw
  subst e
  cases r
  obtain ⟨its, rv, ht, hz⟩ := I.tuple hq
  cases rv with
  | @cons _ u0 _ us r0 rs =>
  rw [PyProof.Rows.assign_Tuple]
  apply wpAny_bind
  apply wpAny_standAt
  unfold unpack
  rw [he]
  apply wpAny_bind
  apply wpAny_holding
  have hsz : (u0 :: us).toArray.size ≤ sizeLine := by
    rw [List.size_toArray, List.length_cons, ← rs.length]
    exact hz
  refine take_rest (I.ok.hd hc) ht (by simp) hsz fun g n keep => ?_
  have I1 : Inv X pins σ H { s with heap := g, toks := n } := I.kept keep
  have fr : H g.objs.size = none := I1.hok.fresh (Nat.le_refl _)
  have I2 : Inv X pins σ (upd H g.objs.size (.lst xs)) { s with heap := g.push { cls := .type "list", data := .seq us.toArray }, toks := n } :=
    I1.laid (t' := n) (fun b o e => Heap.get?_push_of_some _ e) (Nat.le_refl _)
      ⟨Nat.le_trans (Nat.le_succ _) hz, us, 0, rs, Heap.get?_push_size _ rfl⟩
  refine assignInOrder_cons (thn (h1.run pins _ σ _ _ _ _ I2 r0 (hw _ fr)) fun _ s1 ⟨σ1, H1, I3, q1⟩ => ?_)
  refine assignInOrder_cons (thn (h2.run pins s1 σ1 H1 (.ref g.objs.size) _ _ I3 rfl q1) fun _ s2 ⟨σ2, H2, I4, q2⟩ => ?_)
  exact assignInOrder_nil ⟨σ2, H2, I4, q2⟩
end
end Rwl

namespace Rwl
open PySem PySem.Spec PyProof.Rows L2

/-! ### a written dict, keys ints and texts -/
/-- at d a written dict: what it has at k -/
def KMap (K : PySem.W.Frag) (w : World) (d : Addr) (k : Key) (r : Option V) : Prop :=
  (d == sysModules) = false ∧ (∃ o, K.lookup d = some o ∧ o.cls = .type "dict" ∧ o.dict = none) ∧
    ∀ (P : Program) (h : Heap), K.In h → ∃ f, h.MapOf (mixKind P w) d f ∧ RelO r (f k)
theorem KMap.mk {K : PySem.W.Frag} {w : World} {d : Addr} {k : Key} {r : Option V} {es : Array DictEntry} {n : Nat}
    (hl : K.lookup d = some ⟨.type "dict", none, .dict es n, #[]⟩) (hk : ∀ e ∈ es, ∃ j : Key, keyIs j e.key = true ∧ e.hash = keyH w j)
    (low : (d == sysModules) = false) (hr : RelO r (findBy keyIs es k)) : KMap K w d k r :=
  ⟨low, ⟨_, hl, rfl, rfl⟩, fun P h X => ⟨fun j => findBy keyIs es j, ⟨_, es, n, X _ _ hl, ⟨rfl, rfl, rfl⟩, rfl, hk, fun _ => rfl⟩, hr⟩⟩

section
variable {X : Cx}
def rKIn (K : PySem.W.Frag) (w : World) : R2 := fun x y H Q => ∃ k d r, x = kV k ∧ y = .ref d ∧ KMap K w d k r ∧ Q (.bl r.isSome) H
theorem op_kin : OpR X (compareOp .In) (rKIn X.K X.w) := by
  intro pins s σ H x y v u Q I rx ry h
  obtain ⟨k, d, r, e1, e2, ⟨low, _, m⟩, q⟩ := h
  subst e1 e2
  obtain ⟨f, mf, rf⟩ := m X.prog s.heap I.kIn
  cases (show u = Value.ref d from ry)
  refine wpAny_in_of (kV_is rx) low mf ?_
  rw [← rf.isSome_eq]
  exact ⟨.bl r.isSome, H, I.tok _, rfl, q⟩
def rKIx (K : PySem.W.Frag) (w : World) : R2 := fun x y H Q => ∃ k d v, x = .ref d ∧ y = kV k ∧ KMap K w d k (some v) ∧ Q v H
theorem ix_kmap : IxR X (rKIx X.K X.w) := by
  intro value slice pins s σ H x y v u Q I rx ry h hs
  obtain ⟨k, d, r, e1, e2, ⟨low, _, m⟩, q⟩ := h
  subst e1 e2
  obtain ⟨f, mf, rf⟩ := m X.prog s.heap I.kIn
  obtain ⟨z, ez, rz⟩ := rf.some_of
  cases (show v = Value.ref d from rx)
  exact tail_any mf.typeIs slot_dict_getitem.lookup (wpAny_getItem_of (kV_is ry) mf ez ⟨r, H, I.tok _, rz, q⟩) hs
/-- d.get(y, x), d a written dict -/
def tKGet (K : PySem.W.Frag) (w : World) (td ty tx : TE) : TE := fun σ H Q => td σ H fun x H1 => ∃ d, x = .ref d ∧ (∃ k0 r0, KMap K w d k0 r0) ∧ ty σ H1 fun y H2 => tx σ H2 fun z H3 => ∃ k r, y = kV k ∧ KMap K w d k r ∧ Q (r.getD z) H3
theorem pe_kget {o e f : Expr} {apos cpos : Pos} {td ty tx : TE} (ho : PE X o td) (he : PE X e ty) (hf : PE X f tx) (m : M2 X o "get" apos e f cpos) : PE X (.Call (.Attribute o "get" apos) [e, f] [] cpos) (tKGet X.K X.w td ty tx) := by
  refine ⟨fun pins s σ H Q I h => ?_⟩
  apply wpAny_Call_method m.base m.few m.line PySem.F.plainAttrs_dict PySem.F.slot_dict_get PySem.F.type_dict_get
  refine thn (ho.run pins s σ H _ I h) fun u s1 ⟨x, H1, I1, rx, d, ex, ⟨_, _, low, ⟨ob, lo, lc, ld⟩, _⟩, q1⟩ => ?_
  subst ex
  cases (show u = Value.ref d from rx)
  have at1 : s1.heap.get? d = some ob := I1.kIn _ _ lo
  refine ⟨⟨ob, at1, lc⟩, fun b eb => ?_, ?_⟩
  · cases eb
    exact ⟨ob, at1, ld⟩
  rw [m.trees]
  apply Calls.callWith_builtin rfl
  apply Calls.evalArgs_plain
  apply Calls.spliced_cons
  refine thn (he.run pins s1 σ H1 _ I1 q1) fun iv s2 ⟨y, H2, I2, ry, q2⟩ => ?_
  apply Calls.spliced_cons
  refine thn (hf.run pins s2 σ H2 _ I2 q2) fun fv s3 ⟨z, H3, I3, rz, k, r, ey, ⟨_, _, mk⟩, q3⟩ => ?_
  apply Calls.spliced_nil
  subst ey
  obtain ⟨f, mf, rf⟩ := mk X.prog s3.heap I3.kIn
  refine call_meetsIn PySem.F.slot_dict_get mf.typeIs PySem.F.entry_dict_get (PySem.F.args_dict_get_3 _ _ _) (meets_dict_get_default (mixKind X.prog X.w) d (kV_is ry) low fv) ⟨f, mf, _, H3, I3.tok _, ?_, q3⟩
  exact rf.getD rz
/-- dict(d) -/
theorem call_dictD : CallR X (.type "dict") (fun xs H Q => ∃ a kvs, xs = [.ref a] ∧ Rd H a (.dK kvs) ∧ ∀ p, H p = none → Q (.ref p) (upd H p (.dK kvs))) := by
  intro pins s σ H xs us Q I rs h
  obtain ⟨a, kvs, e, ha, q⟩ := h
  subst e
  obtain ⟨u, e2, r2⟩ := Vals.one rs
  subst e2
  cases (show u = Value.ref a from r2)
  exact d_copyOf I ha fun p s' np I' => ⟨.ref p, _, I', rfl, q p np⟩
end

/-! ### a != b of two dicts that are equal -/
section
variable {prog : Program} {w : World} {κ : Type} [DecidableEq κ] {knd : KeyKind prog w κ} {A : Around} {E : Value → Shared → Prop} {s : Shared}
theorem ne_dicts {a b : Addr} {ka kb : List (κ × Value)} {r : Bool} {Q : Value → Shared → Prop} (la : (a == sysModules) = false) (lb : (b == sysModules) = false)
    (da : s.heap.DictOf knd a ka) (db : s.heap.DictOf knd b kb) (hu : A.units < cLine) (hits : ka.length = kb.length → PySem.W.KeqHitsP prog w A.in1 s kb ka r)
    (h : Q (.bool (!(ka.length == kb.length && r))) s) : wpAny (model prog w) A (compareOp .NotEq (.ref a) (.ref b)) Q E s := by
  refine wpAny_richCompare_same_room (op := .NotEq) da.typeIs db.typeIs PySem.F.slot_dict_ne ?_ hu
  refine wpAny_call_entry PySem.F.slot_dict_ne da.typeIs PySem.F.entry_dict_ne ?_ (PySem.F.args_dict_ne_2 _ _)
  show wpAny _ _ (Builtin.Dict.dictSlotArgs "__ne__" _ >>= _) _ _ s
  apply wpAny_bind
  unfold Builtin.Dict.dictSlotArgs
  apply wpAny_bind
  apply wpAny_notOrdered_dict da.typeIs
  apply wpAny_pure
  apply wpAny_bind
  apply wpAny_isInstance (T := "dict") db.typeIs PySem.F.sub_dict_dict
  simp only [Bool.not_true, Bool.false_eq_true, if_false]
  apply wpAny_bind
  apply wpAny_pure
  apply wpAny_bind
  apply wpAny_pure
  apply wpAny_bind
  apply PySem.W.samePairsP la lb da db hits
  exact wpAny_pure ⟨_, rfl, (fun e => nomatch e), by simpa using h⟩
end
section
variable {X : Cx}
def rNeV (K : PySem.W.Frag) : R2 := fun x y H Q => ∃ n a b ks ls, n ≤ 60 ∧ x = .ref a ∧ y = .ref b ∧ H a = some (.dK ks) ∧ H b = some (.dK ls) ∧ ks.length = ls.length ∧ (∀ p ∈ ks, ∃ u, valV ls p.1 = some u ∧ EqV K H n p.2 u) ∧ Q (.bl false) H
theorem op_neV (hu : X.A.units + 64 < cLine) : OpR X (compareOp .NotEq) (rNeV X.K) := by
  intro pins s σ H x y v u Q I rx ry h
  obtain ⟨n, a, b, ks, ls, hn, e1, e2, ha, hb, hl, hp, q⟩ := h
  subst e1 e2
  cases (show v = Value.ref a from rx)
  cases (show u = Value.ref b from ry)
  obtain ⟨_, ya, va, ra, da⟩ := (show ObjOk X.prog X.w H s.heap a (.dK ks) from I.hok a _ ha)
  obtain ⟨_, yb, vb, rb, db⟩ := (show ObjOk X.prog X.w H s.heap b (.dK ls) from I.hok b _ hb)
  have room : X.A.in1.units + n < cLine := by
    show X.A.units + 1 + n < cLine
    omega
  refine ne_dicts (knd := mixKind X.prog X.w) (r := true) ya yb da db (by omega) (fun _ => hits_run (eqV_run I n X.A.in1 room) rb ra hp) ?_
  have e : va.length = vb.length := by rw [← ra.length, ← rb.length]; exact hl
  rw [show (!(va.length == vb.length && true)) = false by rw [e]; simp]
  exact ⟨.bl false, H, I, rfl, q⟩
end
end Rwl

/-! M0: the data and the plain law. -/
namespace Rwl
open PySem

inductive Op where
  | add | sub | and | or | xor | lt | eq
inductive Ex where
  | num (n : Int) | name (x : Str) | cell (e : Ex) | not (e : Ex) | bin (o : Op) (a b : Ex)
def Op.sign : Op → Str
  | .add => "+" | .sub => "-" | .and => "&" | .or => "|" | .xor => "^" | .lt => "<" | .eq => "="
def Op.fn : Op → Int → Int → Int
  | .add => fun a b => (a + b) % 256
  | .sub => fun a b => (a - b) % 256
  | .and => Builtin.bitAnd
  | .or => Builtin.bitOr
  | .xor => Builtin.bitXor
  | .lt => fun a b => if decide (a < b) = true then 1 else 0
  | .eq => fun a b => if decide (a = b) = true then 1 else 0
abbrev Nm := Str → Int
def put (f : Nm) (x : Str) (v : Int) : Nm := fun y => if y = x then v else f y
def worth (f : Nm) (c : List Int) : Ex → Int
  | .num n => n
  | .name x => f x
  | .cell e => c.getD (worth f c e % 64).toNat 0
  | .not e => if decide (worth f c e = 0) = true then 1 else 0
  | .bin o a b => o.fn (worth f c a) (worth f c b)
inductive Stm where
  | set (x : Str) (e : Ex) | cell (p e : Ex) | out (e : Ex) | keep (e : Ex) | inn (x : Str) | take (x : Str)
structure M where
  names : Nm
  cells : List Int
  kept : List Int
  inputs : List Int
  outs : List Int
def M.w (m : M) (e : Ex) : Int := worth m.names m.cells e
def M.put (m : M) (x : Str) (v : Int) : M := { m with names := Rwl.put m.names x v }
def M.cellPut (m : M) (p v : Int) : M := { m with cells := m.cells.set (p % 64).toNat v }
def M.tell (m : M) (v : Int) : M := { m with outs := m.outs ++ [v] }
def M.keep (m : M) (v : Int) : M := { m with kept := m.kept ++ [v] }
def M.inn (m : M) (x : Str) : M := { m with names := Rwl.put m.names x (m.inputs.headD 0), inputs := m.inputs.drop 1 }
def M.take (m : M) (x : Str) : M := { m with names := Rwl.put m.names x (m.kept.getLastD 0), kept := m.kept.dropLast }
def deepS : Str := "deep"
def bareS : Str := "bare"
/-- a statement done -/
def M.stated (m : M) : Stm → M × Option Str
  | .set x e => (m.put x (m.w e), none)
  | .cell p e => (m.cellPut (m.w p) (m.w e), none)
  | .out e => (m.tell (m.w e), none)
  | .keep e => if m.kept.length = 16 then (m, some deepS) else (m.keep (m.w e), none)
  | .inn x => (m.inn x, none)
  | .take x => if m.kept = [] then (m, some bareS) else (m.take x, none)
/-- statements, until one ends -/
def runS : M × Option Str → List Stm → M × Option Str
  | p, [] => p
  | (m, none), s :: r => runS (m.stated s) r
  | (m, some z), _ :: r => runS (m, some z) r

/-! ### rows -/
inductive Row where
  | alone (k : Nat) | jump (k : Nat) (n : Int) | single (k r : Nat) | numd (k r : Nat) (n : Int) | pair (k r s : Nat)
def bx (r : Nat) : Str := ⟨#[97 + r]⟩
def aloneW : List Str := ["halt", "back", "rest"]
def jumpW : List Str := ["go", "zero", "nonzero", "less", "notless", "call"]
def singleW : List Str := ["in", "out", "keep", "take"]
def numdW : List Str := ["set", "testn", "loadn", "storen"]
def pairW : List Str := ["copy", "add", "sub", "and", "or", "xor", "test", "load", "store"]
def Row.word : Row → Str
  | .alone k => aloneW.getD k ""
  | .jump k _ => jumpW.getD k ""
  | .single k _ => singleW.getD k ""
  | .numd k _ _ => numdW.getD k ""
  | .pair k _ _ => pairW.getD k ""
def byteOk (n : Int) : Prop := 0 ≤ n ∧ n < 256
def Row.ok : Row → Prop
  | .alone k => k < 3
  | .jump k n => k < 6 ∧ byteOk n
  | .single k r => k < 4 ∧ r < 4
  | .numd k r n => k < 4 ∧ r < 4 ∧ byteOk n
  | .pair k r s => k < 9 ∧ r < 4 ∧ s < 4
/-- rows that only go on -/
def Row.goes : Row → Prop
  | .alone k => k = 2
  | .jump k _ => k < 5
  | _ => True
def keys : List Str := [bx 0, bx 1, bx 2, bx 3, "zero", "less"]
def zeroE (r : Nat) : Stm := .set "zero" (.bin .eq (.name (bx r)) (.num 0))
def stms : Row → List Stm
  | .single 0 r => [.inn (bx r)]
  | .single 1 r => [.out (.name (bx r))]
  | .single 2 r => [.keep (.name (bx r))]
  | .single _ r => [.take (bx r)]
  | .numd 0 r n => [.set (bx r) (.num n)]
  | .numd 1 r n => [.set "zero" (.bin .eq (.name (bx r)) (.num n)), .set "less" (.bin .lt (.name (bx r)) (.num n))]
  | .numd 2 r n => [.set (bx r) (.cell (.num (n % 64)))]
  | .numd _ r n => [.cell (.num (n % 64)) (.name (bx r))]
  | .pair 0 r s => [.set (bx r) (.name (bx s))]
  | .pair 1 r s => [.set "less" (.bin .lt (.bin .sub (.num 255) (.name (bx r))) (.name (bx s))), .set (bx r) (.bin .add (.name (bx r)) (.name (bx s))), zeroE r]
  | .pair 2 r s => [.set "less" (.bin .lt (.name (bx r)) (.name (bx s))), .set (bx r) (.bin .sub (.name (bx r)) (.name (bx s))), zeroE r]
  | .pair 3 r s => [.set (bx r) (.bin .and (.name (bx r)) (.name (bx s))), zeroE r, .set "less" (.num 0)]
  | .pair 4 r s => [.set (bx r) (.bin .or (.name (bx r)) (.name (bx s))), zeroE r, .set "less" (.num 0)]
  | .pair 5 r s => [.set (bx r) (.bin .xor (.name (bx r)) (.name (bx s))), zeroE r, .set "less" (.num 0)]
  | .pair 6 r s => [.set "zero" (.bin .eq (.name (bx r)) (.name (bx s))), .set "less" (.bin .lt (.name (bx r)) (.name (bx s)))]
  | .pair 7 r s => [.set (bx r) (.cell (.name (bx s)))]
  | .pair _ r s => [.cell (.name (bx r)) (.name (bx s))]
  | _ => []

/-! ### the law's old machine -/
def b2 (p : Bool) : Int := if p = true then 1 else 0
def M.marks (m : M) (z l : Int) : M := { m with names := Rwl.put (Rwl.put m.names "zero" z) "less" l }
def M.reck (m : M) (w r : Str) (x y : Int) : M :=
  if w = "add" then (m.put r ((x + y) % 256)).marks (b2 (decide ((x + y) % 256 = 0))) (b2 (decide (255 < x + y)))
  else if w = "sub" then (m.put r ((x - y) % 256)).marks (b2 (decide ((x - y) % 256 = 0))) (b2 (decide (x < y)))
  else if w = "test" ∨ w = "testn" then m.marks (b2 (decide (x = y))) (b2 (decide (x < y)))
  else
    let v := if w = "and" then Builtin.bitAnd x y else if w = "or" then Builtin.bitOr x y else Builtin.bitXor x y
    (m.put r v).marks (b2 (decide (v = 0))) 0
def M.moved (m : M) (w r : Str) (x n : Int) : M :=
  if w = "set" ∨ w = "copy" then m.put r n
  else if w = "load" ∨ w = "loadn" then m.put r (m.cells.getD (n % 64).toNat 0)
  else if w = "store" then m.cellPut x n
  else m.cellPut n x
def M.passed (m : M) (w r : Str) : M × Option Str :=
  if w = "in" then (m.inn r, none)
  else if w = "out" then (m.tell (m.names r), none)
  else if w = "keep" then (if m.kept.length = 16 then (m, some deepS) else (m.keep (m.names r), none))
  else if m.kept = [] then (m, some bareS) else (m.take r, none)
def M.mark (m : M) (w : Str) : Int :=
  if w = "go" then 1 else if w = "zero" then m.names "zero" else if w = "nonzero" then 1 - m.names "zero"
  else if w = "less" then m.names "less" else 1 - m.names "less"
def M.gone (m : M) (w : Str) (n b : Int) : Int := if m.mark w = 1 then n else b
def movesW : List Str := ["set", "copy", "load", "loadn", "store", "storen"]
def M.work (m : M) (w r : Str) (x y : Int) : M := if w ∈ movesW then m.moved w r x y else m.reck w r x y
/-- a row done: the machine, its end, where it goes on -/
def M.done (m : M) (b : Int) : Row → M × Option Str × Int
  | .alone _ => (m, none, b)
  | .jump k n => (m, none, m.gone (jumpW.getD k "") n b)
  | .single k r => ((m.passed (singleW.getD k "") (bx r)).1, (m.passed (singleW.getD k "") (bx r)).2, b)
  | .numd k r n => (m.work (numdW.getD k "") (bx r) (m.names (bx r)) n, none, b)
  | .pair k r s => (m.work (pairW.getD k "") (bx r) (m.names (bx r)) (m.names (bx s)), none, b)
structure M.Ok (m : M) : Prop where
  box : ∀ r, r < 4 → byteOk (m.names (bx r))
  zero : m.names "zero" = 0 ∨ m.names "zero" = 1
  less : m.names "less" = 0 ∨ m.names "less" = 1
  cells : m.cells.length = 64
  kept : m.kept.length ≤ 16

theorem bx_inj {r s : Nat} (h : bx r = bx s) : r = s := by
  have e := congrArg (fun z : Str => z.cps.toList) h
  simp only [bx, List.cons.injEq, and_true] at e
  omega
theorem bx_zero (r : Nat) : bx r ≠ "zero" := fun h => by
  have e := congrArg (fun z : Str => z.cps.size) h
  revert e
  show ¬ (1 = ("zero" : Str).cps.size)
  decide +kernel
theorem bx_less (r : Nat) : bx r ≠ "less" := fun h => by
  have e := congrArg (fun z : Str => z.cps.size) h
  revert e
  show ¬ (1 = ("less" : Str).cps.size)
  decide +kernel
theorem zero_less : ("zero" : Str) ≠ "less" := by decide +kernel
theorem get_set {c : List Int} {k : Nat} : True := trivial
theorem runS_none (m : M) (s : Stm) (r : List Stm) : runS (m, none) (s :: r) = runS (m.stated s) r := rfl
theorem put_same (f : Nm) (x : Str) (v : Int) : put f x v x = v := if_pos rfl
theorem put_ne (f : Nm) {x y : Str} (v : Int) (h : y ≠ x) : put f x v y = f y := if_neg h
theorem mod64 (n : Int) : n % 64 % 64 = n % 64 := by omega
end Rwl

/-! M1: the plain law: statements do as the row does. -/
namespace Rwl
open PySem

theorem put_zero_box (f : Nm) (r : Nat) (v : Int) : put f "zero" v (bx r) = f (bx r) := put_ne f v (bx_zero r)
theorem put_less_box (f : Nm) (r : Nat) (v : Int) : put f "less" v (bx r) = f (bx r) := put_ne f v (bx_less r)
theorem put_box_zero (f : Nm) (r : Nat) (v : Int) : put f (bx r) v "zero" = f "zero" := put_ne f v fun h => bx_zero r h.symm
theorem put_box_less (f : Nm) (r : Nat) (v : Int) : put f (bx r) v "less" = f "less" := put_ne f v fun h => bx_less r h.symm
theorem put_less_zero (f : Nm) (v : Int) : put f "less" v "zero" = f "zero" := put_ne f v zero_less
theorem put_zero_less (f : Nm) (v : Int) : put f "zero" v "less" = f "less" := put_ne f v fun h => zero_less h.symm
theorem put_comm (f : Nm) {x y : Str} (u v : Int) (h : x ≠ y) : put (put f x u) y v = put (put f y v) x u := by
  funext z
  unfold put
  by_cases h1 : z = y
  · have h2 : ¬ z = x := fun e => h (e.symm.trans h1)
    rw [if_pos h1, if_neg h2, if_pos h1]
  · rw [if_neg h1, if_neg h1]
theorem comm_lb (f : Nm) (r : Nat) (u v : Int) : put (put f "less" u) (bx r) v = put (put f (bx r) v) "less" u := put_comm f u v fun h => bx_less r h.symm
theorem comm_lz (f : Nm) (u v : Int) : put (put f "less" u) "zero" v = put (put f "zero" v) "less" u := put_comm f u v fun h => zero_less h.symm

inductive Way where
  | go (n : Int) | ask (e : Ex) (n b : Int)
def askE : Nat → Ex
  | 1 => .name "zero"
  | 2 => .not (.name "zero")
  | 3 => .name "less"
  | _ => .not (.name "less")
def Row.way (b : Int) : Row → Way
  | .jump 0 n => .go n
  | .jump k n => .ask (askE k) n b
  | _ => .go b
/-- what the law asks of the way at the machine behind the row -/
def Way.right (m : M) (due : Int) : Way → Prop
  | .go n => n = due
  | .ask e n b => (m.w e = 0 ∧ b = due) ∨ (m.w e = 1 ∧ n = due)

theorem over_iff {a b : Int} (ha : byteOk a) (hb : byteOk b) : decide ((255 - a) % 256 < b) = decide (255 < a + b) := by
  obtain ⟨_, _⟩ := ha
  obtain ⟨_, _⟩ := hb
  have e : (255 - a) % 256 = 255 - a := by omega
  rw [e]
  apply decide_eq_decide.mpr
  omega

/-- the law in plain words -/
structure Agree (m : M) (r : Row) (b : Int) : Prop where
  fin : (runS (m, none) (stms r)).2 = (m.done b r).2.1
  same : (m.done b r).2.1 = none → (runS (m, none) (stms r)).1 = (m.done b r).1
  way : (m.done b r).2.1 = none → (r.way b).right (m.done b r).1 (m.done b r).2.2

theorem agree_alone (m : M) (k : Nat) (b : Int) : Agree m (.alone k) b := ⟨rfl, fun _ => rfl, fun _ => rfl⟩
theorem agree_jump (m : M) (hm : m.Ok) {k : Nat} (n b : Int) (hk : k < 5) : Agree m (.jump k n) b := by
  have w1 : ¬ ("zero" : Str) = "go" := by decide +kernel
  have w2 : ¬ ("nonzero" : Str) = "go" := by decide +kernel
  have w3 : ¬ ("nonzero" : Str) = "zero" := by decide +kernel
  have w4 : ¬ ("less" : Str) = "go" := by decide +kernel
  have w5 : ¬ ("less" : Str) = "zero" := by decide +kernel
  have w6 : ¬ ("less" : Str) = "nonzero" := by decide +kernel
  have w7 : ¬ ("notless" : Str) = "go" := by decide +kernel
  have w8 : ¬ ("notless" : Str) = "zero" := by decide +kernel
  have w9 : ¬ ("notless" : Str) = "nonzero" := by decide +kernel
  have w10 : ¬ ("notless" : Str) = "less" := by decide +kernel
  have hc : k = 0 ∨ k = 1 ∨ k = 2 ∨ k = 3 ∨ k = 4 := by omega
  have hz := hm.zero
  have hl := hm.less
  rcases hc with rfl | rfl | rfl | rfl | rfl
  · refine ⟨rfl, fun _ => rfl, fun _ => ?_⟩
    show n = m.gone "go" n b
    unfold M.gone M.mark
    rw [if_pos rfl, if_pos rfl]
  · refine ⟨rfl, fun _ => rfl, fun _ => ?_⟩
    show (m.names "zero" = 0 ∧ b = m.gone "zero" n b) ∨ (m.names "zero" = 1 ∧ n = m.gone "zero" n b)
    unfold M.gone M.mark
    rw [if_neg w1, if_pos rfl]
    rcases hz with z | z
    · exact .inl ⟨z, by rw [z]; rfl⟩
    · exact .inr ⟨z, by rw [z]; rfl⟩
  · refine ⟨rfl, fun _ => rfl, fun _ => ?_⟩
    show ((if decide (m.names "zero" = 0) = true then (1 : Int) else 0) = 0 ∧ b = m.gone "nonzero" n b) ∨ ((if decide (m.names "zero" = 0) = true then (1 : Int) else 0) = 1 ∧ n = m.gone "nonzero" n b)
    unfold M.gone M.mark
    rw [if_neg w2, if_neg w3, if_pos rfl]
    rcases hz with z | z
    · exact .inr ⟨by rw [z]; rfl, by rw [z]; rfl⟩
    · exact .inl ⟨by rw [z]; rfl, by rw [z]; rfl⟩
  · refine ⟨rfl, fun _ => rfl, fun _ => ?_⟩
    show (m.names "less" = 0 ∧ b = m.gone "less" n b) ∨ (m.names "less" = 1 ∧ n = m.gone "less" n b)
    unfold M.gone M.mark
    rw [if_neg w4, if_neg w5, if_neg w6, if_pos rfl]
    rcases hl with z | z
    · exact .inl ⟨z, by rw [z]; rfl⟩
    · exact .inr ⟨z, by rw [z]; rfl⟩
  · refine ⟨rfl, fun _ => rfl, fun _ => ?_⟩
    show ((if decide (m.names "less" = 0) = true then (1 : Int) else 0) = 0 ∧ b = m.gone "notless" n b) ∨ ((if decide (m.names "less" = 0) = true then (1 : Int) else 0) = 1 ∧ n = m.gone "notless" n b)
    unfold M.gone M.mark
    rw [if_neg w7, if_neg w8, if_neg w9, if_neg w10]
    rcases hl with z | z
    · exact .inr ⟨by rw [z]; rfl, by rw [z]; rfl⟩
    · exact .inl ⟨by rw [z]; rfl, by rw [z]; rfl⟩
theorem agree_single (m : M) {k : Nat} (r : Nat) (b : Int) (hk : k < 4) : Agree m (.single k r) b := by
  have w1 : ¬ ("out" : Str) = "in" := by decide +kernel
  have w2 : ¬ ("keep" : Str) = "in" := by decide +kernel
  have w3 : ¬ ("keep" : Str) = "out" := by decide +kernel
  have w4 : ¬ ("take" : Str) = "in" := by decide +kernel
  have w5 : ¬ ("take" : Str) = "out" := by decide +kernel
  have w6 : ¬ ("take" : Str) = "keep" := by decide +kernel
  have hc : k = 0 ∨ k = 1 ∨ k = 2 ∨ k = 3 := by omega
  rcases hc with rfl | rfl | rfl | rfl
  · have e : m.passed "in" (bx r) = (m.inn (bx r), none) := if_pos rfl
    refine ⟨?_, fun _ => ?_, fun _ => rfl⟩
    · show none = (m.passed "in" (bx r)).2
      rw [e]
    · show m.inn (bx r) = (m.passed "in" (bx r)).1
      rw [e]
  · have e : m.passed "out" (bx r) = (m.tell (m.names (bx r)), none) := by
      unfold M.passed
      rw [if_neg w1, if_pos rfl]
    refine ⟨?_, fun _ => ?_, fun _ => rfl⟩
    · show none = (m.passed "out" (bx r)).2
      rw [e]
    · show m.tell (m.names (bx r)) = (m.passed "out" (bx r)).1
      rw [e]
  · have e : m.passed "keep" (bx r) = (if m.kept.length = 16 then (m, some deepS) else (m.keep (m.names (bx r)), none)) := by
      unfold M.passed
      rw [if_neg w2, if_neg w3, if_pos rfl]
    have e2 : m.done b (.single 2 r) = ((m.passed "keep" (bx r)).1, (m.passed "keep" (bx r)).2, b) := rfl
    have e3 : runS (m, none) (stms (.single 2 r)) = (if m.kept.length = 16 then (m, some deepS) else (m.keep (m.names (bx r)), none)) := rfl
    refine ⟨?_, fun h => ?_, fun h => rfl⟩
    · rw [e2, e3, e]
    · rw [e2, e3, e]
  · have e : m.passed "take" (bx r) = (if m.kept = [] then (m, some bareS) else (m.take (bx r), none)) := by
      unfold M.passed
      rw [if_neg w4, if_neg w5, if_neg w6]
    have e2 : m.done b (.single 3 r) = ((m.passed "take" (bx r)).1, (m.passed "take" (bx r)).2, b) := rfl
    have e3 : runS (m, none) (stms (.single 3 r)) = (if m.kept = [] then (m, some bareS) else (m.take (bx r), none)) := rfl
    refine ⟨?_, fun h => ?_, fun h => rfl⟩
    · rw [e2, e3, e]
    · rw [e2, e3, e]
theorem agree_of {m : M} {r : Row} {b : Int} {m' : M} (e1 : runS (m, none) (stms r) = (m', none)) (e2 : m.done b r = (m', none, b)) (e3 : r.way b = .go b) : Agree m r b :=
  ⟨by rw [e1, e2], fun _ => by rw [e1, e2], fun _ => by rw [e2, e3]; rfl⟩
theorem M.ext' {a c : M} (h1 : a.names = c.names) (h2 : a.cells = c.cells) (h3 : a.kept = c.kept) (h4 : a.inputs = c.inputs) (h5 : a.outs = c.outs) : a = c := by
  cases a
  cases c
  cases h1
  cases h2
  cases h3
  cases h4
  cases h5
  rfl
theorem two_set (m : M) (r : Nat) (e1 e2 : Ex) (u v : Int) (h1 : m.w e1 = u) (h2 : (m.put "zero" u).w e2 = v) :
    runS (m, none) [.set "zero" e1, .set "less" e2] = (m.marks u v, none) := by
  subst h1
  subst h2
  rfl
theorem three_set (m : M) (r : Nat) (e1 e2 : Ex) (v x : Int) (h1 : m.w e1 = v) (h2 : (m.put "less" v).w e2 = x) :
    runS (m, none) [.set "less" e1, .set (bx r) e2, zeroE r] = ((m.put (bx r) x).marks (b2 (decide (x = 0))) v, none) := by
  subst h1
  have e : runS (m, none) [.set "less" e1, .set (bx r) e2, zeroE r] =
    (((m.put "less" (m.w e1)).put (bx r) ((m.put "less" (m.w e1)).w e2)).put "zero" (b2 (decide (put (put m.names "less" (m.w e1)) (bx r) ((m.put "less" (m.w e1)).w e2) (bx r) = 0))), none) := rfl
  rw [e, h2, put_same]
  refine congrArg (fun z => (z, none)) (M.ext' ?_ rfl rfl rfl rfl)
  show put (put (put m.names "less" (m.w e1)) (bx r) x) "zero" (b2 (decide (x = 0))) = put (put (put m.names (bx r) x) "zero" (b2 (decide (x = 0)))) "less" (m.w e1)
  rw [comm_lb, comm_lz]
theorem agree_numd (m : M) {k : Nat} (r : Nat) (n b : Int) (hk : k < 4) : Agree m (.numd k r n) b := by
  have w1 : ("set" : Str) ∈ movesW := by decide +kernel
  have w2 : ¬ ("testn" : Str) ∈ movesW := by decide +kernel
  have w3 : ("loadn" : Str) ∈ movesW := by decide +kernel
  have w4 : ("storen" : Str) ∈ movesW := by decide +kernel
  have u1 : ¬ ("testn" : Str) = "add" := by decide +kernel
  have u2 : ¬ ("testn" : Str) = "sub" := by decide +kernel
  have u3 : ¬ (("loadn" : Str) = "set" ∨ ("loadn" : Str) = "copy") := by decide +kernel
  have u4 : ¬ (("storen" : Str) = "set" ∨ ("storen" : Str) = "copy") := by decide +kernel
  have u5 : ¬ (("storen" : Str) = "load" ∨ ("storen" : Str) = "loadn") := by decide +kernel
  have u6 : ¬ ("storen" : Str) = "store" := by decide +kernel
  have hc : k = 0 ∨ k = 1 ∨ k = 2 ∨ k = 3 := by omega
  rcases hc with rfl | rfl | rfl | rfl
  · refine agree_of (m' := m.put (bx r) n) rfl ?_ rfl
    show (m.work "set" (bx r) (m.names (bx r)) n, none, b) = _
    unfold M.work M.moved
    rw [if_pos w1, if_pos (.inl rfl)]
  · refine agree_of (m' := m.marks (b2 (decide (m.names (bx r) = n))) (b2 (decide (m.names (bx r) < n)))) ?_ ?_ rfl
    · exact two_set m r _ _ _ _ rfl (congrArg (fun z => b2 (decide (z < n))) (put_zero_box m.names r (b2 (decide (m.names (bx r) = n)))))
    · show (m.work "testn" (bx r) (m.names (bx r)) n, none, b) = _
      unfold M.work M.reck
      rw [if_neg w2, if_neg u1, if_neg u2, if_pos (.inr rfl)]
  · refine agree_of (m' := m.put (bx r) (m.cells.getD (n % 64).toNat 0)) ?_ ?_ rfl
    · show (m.put (bx r) (m.cells.getD (n % 64 % 64).toNat 0), none) = _
      rw [mod64]
    · show (m.work "loadn" (bx r) (m.names (bx r)) n, none, b) = _
      unfold M.work M.moved
      rw [if_pos w3, if_neg u3, if_pos (.inr rfl)]
  · refine agree_of (m' := m.cellPut n (m.names (bx r))) ?_ ?_ rfl
    · show (m.cellPut (n % 64) (m.names (bx r)), none) = _
      unfold M.cellPut
      rw [mod64]
    · show (m.work "storen" (bx r) (m.names (bx r)) n, none, b) = _
      unfold M.work M.moved
      rw [if_pos w4, if_neg u4, if_neg u5, if_neg u6]
theorem bits_agree (m : M) (r : Nat) (x : Int) (e : Ex) (h : m.w e = x) :
    runS (m, none) [.set (bx r) e, zeroE r, .set "less" (.num 0)] = ((m.put (bx r) x).marks (b2 (decide (x = 0))) 0, none) := by
  show (((m.put (bx r) (m.w e)).put "zero" (b2 (decide (put m.names (bx r) (m.w e) (bx r) = 0)))).put "less" 0, none) = _
  rw [h, put_same]
  rfl
theorem agree_pair (m : M) (hm : m.Ok) {k r s : Nat} (b : Int) (hk : k < 9) (hr : r < 4) (hs : s < 4) : Agree m (.pair k r s) b := by
  have w0 : ("copy" : Str) ∈ movesW := by decide +kernel
  have w1 : ¬ ("add" : Str) ∈ movesW := by decide +kernel
  have w2 : ¬ ("sub" : Str) ∈ movesW := by decide +kernel
  have w3 : ¬ ("and" : Str) ∈ movesW := by decide +kernel
  have w4 : ¬ ("or" : Str) ∈ movesW := by decide +kernel
  have w5 : ¬ ("xor" : Str) ∈ movesW := by decide +kernel
  have w6 : ¬ ("test" : Str) ∈ movesW := by decide +kernel
  have w7 : ("load" : Str) ∈ movesW := by decide +kernel
  have w8 : ("store" : Str) ∈ movesW := by decide +kernel
  have u1 : ¬ ("sub" : Str) = "add" := by decide +kernel
  have u2 : ¬ ("and" : Str) = "add" := by decide +kernel
  have u3 : ¬ ("and" : Str) = "sub" := by decide +kernel
  have u4 : ¬ (("and" : Str) = "test" ∨ ("and" : Str) = "testn") := by decide +kernel
  have u5 : ¬ ("or" : Str) = "add" := by decide +kernel
  have u6 : ¬ ("or" : Str) = "sub" := by decide +kernel
  have u7 : ¬ (("or" : Str) = "test" ∨ ("or" : Str) = "testn") := by decide +kernel
  have u8 : ¬ ("or" : Str) = "and" := by decide +kernel
  have u9 : ¬ ("xor" : Str) = "add" := by decide +kernel
  have v0 : ¬ ("xor" : Str) = "sub" := by decide +kernel
  have v1 : ¬ (("xor" : Str) = "test" ∨ ("xor" : Str) = "testn") := by decide +kernel
  have v2 : ¬ ("xor" : Str) = "and" := by decide +kernel
  have v3 : ¬ ("xor" : Str) = "or" := by decide +kernel
  have v4 : ¬ ("test" : Str) = "add" := by decide +kernel
  have v5 : ¬ ("test" : Str) = "sub" := by decide +kernel
  have v6 : ¬ (("load" : Str) = "set" ∨ ("load" : Str) = "copy") := by decide +kernel
  have v7 : ¬ (("store" : Str) = "set" ∨ ("store" : Str) = "copy") := by decide +kernel
  have v8 : ¬ (("store" : Str) = "load" ∨ ("store" : Str) = "loadn") := by decide +kernel
  have hc : k = 0 ∨ k = 1 ∨ k = 2 ∨ k = 3 ∨ k = 4 ∨ k = 5 ∨ k = 6 ∨ k = 7 ∨ k = 8 := by omega
  have hbr := hm.box r hr
  have hbs := hm.box s hs
  rcases hc with rfl | rfl | rfl | rfl | rfl | rfl | rfl | rfl | rfl
  · refine agree_of (m' := m.put (bx r) (m.names (bx s))) rfl ?_ rfl
    show (m.work "copy" (bx r) (m.names (bx r)) (m.names (bx s)), none, b) = _
    unfold M.work M.moved
    rw [if_pos w0, if_pos (.inr rfl)]
  · refine agree_of (m' := (m.put (bx r) ((m.names (bx r) + m.names (bx s)) % 256)).marks (b2 (decide ((m.names (bx r) + m.names (bx s)) % 256 = 0))) (b2 (decide (255 < m.names (bx r) + m.names (bx s))))) ?_ ?_ rfl
    · refine three_set m r _ _ _ _ (congrArg b2 (over_iff hbr hbs)) ?_
      show (put m.names "less" (b2 (decide (255 < m.names (bx r) + m.names (bx s)))) (bx r) + put m.names "less" (b2 (decide (255 < m.names (bx r) + m.names (bx s)))) (bx s)) % 256 = _
      rw [put_less_box, put_less_box]
    · show (m.work "add" (bx r) (m.names (bx r)) (m.names (bx s)), none, b) = _
      unfold M.work M.reck
      rw [if_neg w1, if_pos rfl]
  · refine agree_of (m' := (m.put (bx r) ((m.names (bx r) - m.names (bx s)) % 256)).marks (b2 (decide ((m.names (bx r) - m.names (bx s)) % 256 = 0))) (b2 (decide (m.names (bx r) < m.names (bx s))))) ?_ ?_ rfl
    · refine three_set m r _ _ _ _ rfl ?_
      show (put m.names "less" (b2 (decide (m.names (bx r) < m.names (bx s)))) (bx r) - put m.names "less" (b2 (decide (m.names (bx r) < m.names (bx s)))) (bx s)) % 256 = _
      rw [put_less_box, put_less_box]
    · show (m.work "sub" (bx r) (m.names (bx r)) (m.names (bx s)), none, b) = _
      unfold M.work M.reck
      rw [if_neg w2, if_neg u1, if_pos rfl]
  · refine agree_of (bits_agree m r _ _ rfl) ?_ rfl
    show (m.work "and" (bx r) (m.names (bx r)) (m.names (bx s)), none, b) = _
    unfold M.work M.reck
    rw [if_neg w3, if_neg u2, if_neg u3, if_neg u4, if_pos rfl]
    rfl
  · refine agree_of (bits_agree m r _ _ rfl) ?_ rfl
    show (m.work "or" (bx r) (m.names (bx r)) (m.names (bx s)), none, b) = _
    unfold M.work M.reck
    rw [if_neg w4, if_neg u5, if_neg u6, if_neg u7, if_neg u8, if_pos rfl]
    rfl
  · refine agree_of (bits_agree m r _ _ rfl) ?_ rfl
    show (m.work "xor" (bx r) (m.names (bx r)) (m.names (bx s)), none, b) = _
    unfold M.work M.reck
    rw [if_neg w5, if_neg u9, if_neg v0, if_neg v1, if_neg v2, if_neg v3]
    rfl
  · refine agree_of (m' := m.marks (b2 (decide (m.names (bx r) = m.names (bx s)))) (b2 (decide (m.names (bx r) < m.names (bx s))))) ?_ ?_ rfl
    · refine two_set m r _ _ _ _ rfl ?_
      show b2 (decide (put m.names "zero" (b2 (decide (m.names (bx r) = m.names (bx s)))) (bx r) < put m.names "zero" (b2 (decide (m.names (bx r) = m.names (bx s)))) (bx s))) = _
      rw [put_zero_box, put_zero_box]
    · show (m.work "test" (bx r) (m.names (bx r)) (m.names (bx s)), none, b) = _
      unfold M.work M.reck
      rw [if_neg w6, if_neg v4, if_neg v5, if_pos (.inl rfl)]
  · refine agree_of (m' := m.put (bx r) (m.cells.getD (m.names (bx s) % 64).toNat 0)) rfl ?_ rfl
    show (m.work "load" (bx r) (m.names (bx r)) (m.names (bx s)), none, b) = _
    unfold M.work M.moved
    rw [if_pos w7, if_neg v6, if_pos (.inl rfl)]
  · refine agree_of (m' := m.cellPut (m.names (bx r)) (m.names (bx s))) rfl ?_ rfl
    show (m.work "store" (bx r) (m.names (bx r)) (m.names (bx s)), none, b) = _
    unfold M.work M.moved
    rw [if_pos w8, if_neg v7, if_neg v8, if_pos rfl]
theorem agree (m : M) (hm : m.Ok) (r : Row) (b : Int) (hr : r.ok) (hg : r.goes) : Agree m r b := by
  cases r with
  | alone k => exact agree_alone m k b
  | jump k n => exact agree_jump m hm n b hg
  | single k r => exact agree_single m r b hr.1
  | numd k r n => exact agree_numd m r n b hr.1
  | pair k r s => exact agree_pair m hm b hr.1 hr.2.1 hr.2.2
end Rwl

/-! W0: the text by places, calls by name, the facts of the top. -/
namespace Rwl
open PySem PySem.Spec PyProof.Rows L2

def top (i : Nat) : Stmt := PySem.Challenge.pw_rowlift_k29_whole_statements_do_as_rows.main.body.getD i (.Pass ⟨0, 0, 0, 0⟩)

/-- the def x of the text, as it stands behind the top -/
def At (K : PySem.W.Frag) (mg : Str → Option Value) (x : Str) (st : Stmt) (ps : List Str) : Prop :=
  ∃ f fd, Fun K x x st f fd ∧ mg x = some (.ref f) ∧ Binds K fd ps []
/-- a def that is called by its name, its promise -/
def Cal (P : Program) (w : World) (K : PySem.W.Frag) (mg : Str → Option Value) (base : Heap) (k : Nat) (x : Str) (ps : List Str) (sp : Sp) : Prop :=
  ∃ f fd, FnOk P w K mg base CX0 k f fd ps sp ∧ mg x = some (.ref f) ∧ PySem.W.keepIn K (.ref f) = true ∧ Binds K fd ps []
theorem At.cal {P : Program} {w : World} {K : PySem.W.Frag} {mg : Str → Option Value} {base : Heap} {k : Nat} {x : Str} {st : Stmt} {ps : List Str} {sp : Sp} (a : At K mg x st ps)
    (h : ∀ f fd, Fun K x x st f fd → FnOk P w K mg base CX0 k f fd ps sp) : Cal P w K mg base k x ps sp := by
  obtain ⟨f, fd, F, g, b⟩ := a
  exact ⟨f, fd, h f fd F, g, F.kp, b⟩
def tN (sp : Sp) (t : TA) : TE := fun σ H Q => t σ H fun vs H1 => sp vs H1 Q E0
section
variable {X : Cx} {k : Nat} {x : Str} {ps : List Str} {sp : Sp} {e : Expr} {es : List Expr} {t : TA} {p pos : Pos}
theorem pe_n (C : Cal X.prog X.w X.K X.mg X.base k x ps sp) (hr : Room k X.A) (hg : Gl X x) (ha : PA X (e :: es) t) (hn : (x == ("__debug__" : Str)) = false := by decide)
    (he : starEach (e :: es) X.env = (false, eval e X.env) :: starEach es X.env := by rfl) (hpl : (backTo pos (starEach es X.env)).any (·.1) = false := by rfl) :
    PE X (.Call (.Name x p) (e :: es) [] pos) (tN sp t) := by
  obtain ⟨f, fd, F, g, kp, b⟩ := C
  have q := pe_call (pos := pos) (p := p) F hr hg g kp b .nil pass0 ha hn he hpl
  refine ⟨fun pins s σ H Q I h => q.run pins s σ H Q I ?_⟩
  have e0 : (fun (vs : List V) (H1 : Hp) => sp (vs ++ []) H1 Q E0) = fun vs H1 => sp vs H1 Q E0 := by
    funext vs H1
    rw [List.append_nil]
  show t σ H (fun vs H1 => sp (vs ++ []) H1 Q E0)
  rw [e0]
  exact h
end
/-- a def's scope, looked through -/
def scB (N ps : List Str) (sc : Scope) : Bool :=
  (match sc.kind with | .function => true | _ => false) && !sc.isCoroutine && !sc.isGenerator && decide N.Nodup && decide (N.take ps.length = ps) &&
    (ps.all fun x => match sc.names.lookup x with | some .local => true | some .cell => true | _ => false) &&
    (sc.names.all fun y => match y.2 with | .free => false | _ => true)
theorem sc_by {N ps : List Str} {sc : Scope} (h : scB N ps sc = true) : FnScope N ps sc := by
  unfold scB at h
  simp only [Bool.and_eq_true, List.all_eq_true, decide_eq_true_eq, Bool.not_eq_true'] at h
  obtain ⟨⟨⟨⟨⟨⟨h1, h2⟩, h3⟩, h4⟩, h5⟩, h6⟩, h7⟩ := h
  refine ⟨?_, h2, h3, h4, h5, fun x hx => ?_, fun y hy e => ?_⟩
  · split at h1
    · assumption
    · cases h1
  · have q := h6 x hx
    split at q
    · rename_i e
      exact .inl e
    · rename_i e
      exact .inr e
    · cases q
  · have q := h7 y hy
    rw [e] at q
    cases q
/-- what is written at a: a tuple -/
def KTup (K : PySem.W.Frag) (a : Addr) (xs : List V) : Prop := ∃ (o : Obj) (its : Array Value) (n : Nat), K.lookup a = some o ∧ o.cls = .type "tuple" ∧ o.data = .seq its n ∧ its.size ≤ sizeLine ∧ Vals xs its.toList
theorem KTup.at {K : PySem.W.Frag} {a : Addr} {xs : List V} (h : KTup K a xs) (H : Hp) : SqT K H a xs := .inr h
theorem KTup.mk {K : PySem.W.Frag} {a : Addr} {xs : List V} {its : Array Value} {n : Nat} {dd : Option Addr} {sl : Array (Option Value)} (h : K.lookup a = some ⟨.type "tuple", dd, .seq its n, sl⟩) (hz : its.size ≤ sizeLine) (hv : Vals xs its.toList) : KTup K a xs :=
  ⟨_, its, n, h, rfl, rfl, hz, hv⟩
end Rwl

/-! W1: expressions and statements in the heap; the small defs of lifting. -/
namespace Rwl
open PySem PySem.Spec PyProof.Rows L2

/-- a tuple that is tracked or written -/
def TupAt (K : PySem.W.Frag) (H : Hp) (a : Addr) (xs : List V) : Prop := H a = some (.tup xs) ∨ KTup K a xs
theorem TupAt.sq {K : PySem.W.Frag} {H : Hp} {a : Addr} {xs : List V} (h : TupAt K H a xs) : SqT K H a xs := by
  rcases h with h | h
  · exact SqT.of h
  · exact h.at H
def Tups (H H' : Hp) : Prop := ∀ b xs, H b = some (.tup xs) → H' b = some (.tup xs)
theorem Tups.of {H H' : Hp} (h : Same H H') : Tups H H' := fun b xs e => h b _ e
theorem TupAt.mv {K : PySem.W.Frag} {H H' : Hp} {a : Addr} {xs : List V} (h : TupAt K H a xs) (t : Tups H H') : TupAt K H' a xs := by
  rcases h with h | h
  · exact .inl (t _ _ h)
  · exact .inr h
theorem new_same {H : Hp} {p : Addr} {o : HO} (n : H p = none) : Same H (upd H p o) := fun b u e => by
  rw [upd_ne (ne_of_none e n)]
  exact e

def EAt (K : PySem.W.Frag) (H : Hp) : V → Ex → Prop
  | v, .num n => ∃ a, v = .ref a ∧ TupAt K H a [.str "number", .int n]
  | v, .name x => ∃ a, v = .ref a ∧ TupAt K H a [.str "name", .str x]
  | v, .cell e => ∃ a u, v = .ref a ∧ TupAt K H a [.str "cell", u] ∧ EAt K H u e
  | v, .not e => ∃ a u, v = .ref a ∧ TupAt K H a [.str "not", u] ∧ EAt K H u e
  | v, .bin o e1 e2 => ∃ a u1 u2, v = .ref a ∧ TupAt K H a [.str o.sign, u1, u2] ∧ EAt K H u1 e1 ∧ EAt K H u2 e2
theorem EAt.mv {K : PySem.W.Frag} {H H' : Hp} (t : Tups H H') : ∀ {e : Ex} {v : V}, EAt K H v e → EAt K H' v e := by
  intro e
  induction e with
  | num n =>
    intro v h
    obtain ⟨a, e, h⟩ := h
    exact ⟨a, e, h.mv t⟩
  | name x =>
    intro v h
    obtain ⟨a, e, h⟩ := h
    exact ⟨a, e, h.mv t⟩
  | cell e ih =>
    intro v h
    obtain ⟨a, u, e, h, h2⟩ := h
    exact ⟨a, u, e, h.mv t, ih h2⟩
  | not e ih =>
    intro v h
    obtain ⟨a, u, e, h, h2⟩ := h
    exact ⟨a, u, e, h.mv t, ih h2⟩
  | bin o e1 e2 ih1 ih2 =>
    intro v h
    obtain ⟨a, u1, u2, e, h, h1, h2⟩ := h
    exact ⟨a, u1, u2, e, h.mv t, ih1 h1, ih2 h2⟩
def StAt (K : PySem.W.Frag) (H : Hp) (v : V) : Stm → Prop
  | .set x e => ∃ a u, v = .ref a ∧ TupAt K H a [.str "set", .str x, u] ∧ EAt K H u e
  | .cell p e => ∃ a u1 u2, v = .ref a ∧ TupAt K H a [.str "cell", u1, u2] ∧ EAt K H u1 p ∧ EAt K H u2 e
  | .out e => ∃ a u, v = .ref a ∧ TupAt K H a [.str "out", u] ∧ EAt K H u e
  | .keep e => ∃ a u, v = .ref a ∧ TupAt K H a [.str "keep", u] ∧ EAt K H u e
  | .inn x => ∃ a, v = .ref a ∧ TupAt K H a [.str "in", .str x]
  | .take x => ∃ a, v = .ref a ∧ TupAt K H a [.str "take", .str x]
theorem StAt.mv {K : PySem.W.Frag} {H H' : Hp} (t : Tups H H') {s : Stm} {v : V} (h : StAt K H v s) : StAt K H' v s := by
  cases s with
  | set x e =>
    obtain ⟨a, u, e, h, h2⟩ := h
    exact ⟨a, u, e, h.mv t, h2.mv t⟩
  | cell p e =>
    obtain ⟨a, u1, u2, e, h, h1, h2⟩ := h
    exact ⟨a, u1, u2, e, h.mv t, h1.mv t, h2.mv t⟩
  | out e =>
    obtain ⟨a, u, e, h, h2⟩ := h
    exact ⟨a, u, e, h.mv t, h2.mv t⟩
  | keep e =>
    obtain ⟨a, u, e, h, h2⟩ := h
    exact ⟨a, u, e, h.mv t, h2.mv t⟩
  | inn x =>
    obtain ⟨a, e, h⟩ := h
    exact ⟨a, e, h.mv t⟩
  | take x =>
    obtain ⟨a, e, h⟩ := h
    exact ⟨a, e, h.mv t⟩
def StsAt (K : PySem.W.Frag) (H : Hp) : List V → List Stm → Prop
  | [], [] => True
  | v :: vs, s :: ss => StAt K H v s ∧ StsAt K H vs ss
  | _, _ => False
theorem StsAt.mv {K : PySem.W.Frag} {H H' : Hp} (t : Tups H H') : ∀ {vs : List V} {ss : List Stm}, StsAt K H vs ss → StsAt K H' vs ss
  | [], [], _ => trivial
  | _ :: _, _ :: _, ⟨h, r⟩ => ⟨h.mv t, StsAt.mv t r⟩
  | [], _ :: _, h => (show False from h).elim
  | _ :: _, [], h => (show False from h).elim
def rowV : Row → List V
  | .alone k => [.str (aloneW.getD k "")]
  | .jump k n => [.str (jumpW.getD k ""), .int n]
  | .single k r => [.str (singleW.getD k ""), .str (bx r)]
  | .numd k r n => [.str (numdW.getD k ""), .str (bx r), .int n]
  | .pair k r s => [.str (pairW.getD k ""), .str (bx r), .str (bx s)]
def RowAt (K : PySem.W.Frag) (H : Hp) (v : V) (r : Row) : Prop := ∃ a, v = .ref a ∧ TupAt K H a (rowV r)
theorem RowAt.mv {K : PySem.W.Frag} {H H' : Hp} {v : V} {r : Row} (t : Tups H H') (h : RowAt K H v r) : RowAt K H' v r := by
  obtain ⟨a, e, h⟩ := h
  exact ⟨a, e, h.mv t⟩

/-! ### promises -/
def spSign (o : Op) : Sp := fun vs H Q _ => ∃ a b, vs = [.int a, .int b] ∧ Q (.int (o.fn a b)) H
def spName (K : PySem.W.Frag) : Sp := fun vs H Q _ => ∃ x, vs = [.str x] ∧ ∀ H' v, Same H H' → EAt K H' v (.name x) → Q v H'
def spNum (K : PySem.W.Frag) : Sp := fun vs H Q _ => ∃ n, vs = [.int n] ∧ ∀ H' v, Same H H' → EAt K H' v (.num n) → Q v H'
def spZero (K : PySem.W.Frag) : Sp := fun vs H Q _ => ∃ r, vs = [.str (bx r)] ∧ ∀ H' v, Same H H' → StAt K H' v (zeroE r) → Q v H'
/-- the def lifts rows of that kind -/
def spLift (K : PySem.W.Frag) (P : Row → Prop) : Sp := fun vs H Q _ => ∃ v r, vs = [v] ∧ P r ∧ RowAt K H v r ∧ ∀ H' p us, Same H H' → H p = none → H' p = some (.lst us) → StsAt K H' us (stms r) → Q (.ref p) H'

section
variable {P : Program} {w : World} {K : PySem.W.Frag} {mg : Str → Option Value} {base : Heap} {f : Addr} {fd : FuncData}
theorem len_sign {o : Op} : ∀ vs H Q E, spSign o vs H Q E → vs.length = ["one", "other"].length := by
  intro vs H Q E h
  obtain ⟨a, b, e, _⟩ := h
  rw [e]
  rfl
theorem ok_summed (F : Fun K "summed" "summed" (top 20) f fd) (g : ∃ t, mg "ROUND" = some (.int 256 t)) : FnOk P w K mg base CX0 1 f fd ["one", "other"] (spSign .add) := by
  refine F.ok (sc_by (N := ["one", "other"]) (by decide +kernel)) len_sign fun cdv A outer s H vs Q E hr h => ?_
  obtain ⟨a, b, rfl, q⟩ := h
  obtain ⟨t, g⟩ := g
  exact ⟨_, pss_one (ps_ret (pe_op op_mod (pe_op op_add (pv 0) (pv 1)) (pe_glob (v := .int 256) rfl g ⟨_, rfl⟩))),
    _, rfl, _, rfl, _, _, rfl, rfl, _, _, rfl, rfl, (by show (0 : Int) < 256; decide), q⟩
theorem ok_taken (F : Fun K "taken_off" "taken_off" (top 21) f fd) (g : ∃ t, mg "ROUND" = some (.int 256 t)) : FnOk P w K mg base CX0 1 f fd ["one", "other"] (spSign .sub) := by
  refine F.ok (sc_by (N := ["one", "other"]) (by decide +kernel)) len_sign fun cdv A outer s H vs Q E hr h => ?_
  obtain ⟨a, b, rfl, q⟩ := h
  obtain ⟨t, g⟩ := g
  exact ⟨_, pss_one (ps_ret (pe_op op_mod (pe_op op_sub (pv 0) (pv 1)) (pe_glob (v := .int 256) rfl g ⟨_, rfl⟩))),
    _, rfl, _, rfl, _, _, rfl, rfl, _, _, rfl, rfl, (by show (0 : Int) < 256; decide), q⟩
theorem ok_both (F : Fun K "both_bits" "both_bits" (top 22) f fd) : FnOk P w K mg base CX0 1 f fd ["one", "other"] (spSign .and) := by
  refine F.ok (sc_by (N := ["one", "other"]) (by decide +kernel)) len_sign fun cdv A outer s H vs Q E hr h => ?_
  obtain ⟨a, b, rfl, q⟩ := h
  exact ⟨_, pss_one (ps_ret (pe_op op_and (pv 0) (pv 1))), _, rfl, _, rfl, _, _, rfl, rfl, q⟩
theorem ok_either (F : Fun K "either_bits" "either_bits" (top 23) f fd) : FnOk P w K mg base CX0 1 f fd ["one", "other"] (spSign .or) := by
  refine F.ok (sc_by (N := ["one", "other"]) (by decide +kernel)) len_sign fun cdv A outer s H vs Q E hr h => ?_
  obtain ⟨a, b, rfl, q⟩ := h
  exact ⟨_, pss_one (ps_ret (pe_op op_or (pv 0) (pv 1))), _, rfl, _, rfl, _, _, rfl, rfl, q⟩
theorem ok_unlike (F : Fun K "unlike_bits" "unlike_bits" (top 24) f fd) : FnOk P w K mg base CX0 1 f fd ["one", "other"] (spSign .xor) := by
  refine F.ok (sc_by (N := ["one", "other"]) (by decide +kernel)) len_sign fun cdv A outer s H vs Q E hr h => ?_
  obtain ⟨a, b, rfl, q⟩ := h
  exact ⟨_, pss_one (ps_ret (pe_op op_xor (pv 0) (pv 1))), _, rfl, _, rfl, _, _, rfl, rfl, q⟩
theorem ok_lesser (F : Fun K "is_lesser" "is_lesser" (top 25) f fd) (g : mg "int" = none) : FnOk P w K mg base CX0 1 f fd ["one", "other"] (spSign .lt) := by
  refine F.ok (sc_by (N := ["one", "other"]) (by decide +kernel)) len_sign fun cdv A outer s H vs Q E hr h => ?_
  obtain ⟨a, b, rfl, q⟩ := h
  exact ⟨_, pss_one (ps_ret (pe_callTy call_int1 (by rfl) g (by decide +kernel) (pa_cons (pe_cmpR op_lt (pv 0) (pv 1) (nomark _)) pa_nil))),
    _, rfl, _, rfl, _, _, rfl, rfl, .inr ⟨_, rfl, q⟩⟩
theorem ok_same (F : Fun K "are_same" "are_same" (top 26) f fd) (g : mg "int" = none) : FnOk P w K mg base CX0 1 f fd ["one", "other"] (spSign .eq) := by
  refine F.ok (sc_by (N := ["one", "other"]) (by decide +kernel)) len_sign fun cdv A outer s H vs Q E hr h => ?_
  obtain ⟨a, b, rfl, q⟩ := h
  refine ⟨_, pss_one (ps_ret (pe_callTy call_int1 (by rfl) g (by decide +kernel) (pa_cons (pe_cmpR op_eq (pv 0) (pv 1) (nomark _)) pa_nil))),
    _, rfl, _, rfl, rfl, .inr ⟨_, rfl, ?_⟩⟩
  have e : decide (V.int a = V.int b) = decide (a = b) := decide_eq_decide.mpr ⟨fun h => V.int.inj h, fun h => by rw [h]⟩
  show Q (.int (if decide (V.int a = V.int b) = true then 1 else 0)) H
  rw [e]
  exact q
theorem ok_name (F : Fun K "by_name" "by_name" (top 30) f fd) : FnOk P w K mg base CX0 1 f fd ["x"] (spName K) := by
  refine F.ok (sc_by (N := ["x"]) (by decide +kernel)) (fun vs H Q E h => ?_) fun cdv A outer s H vs Q E hr h => ?_
  · obtain ⟨x, rfl, _⟩ := h
    rfl
  · obtain ⟨x, rfl, q⟩ := h
    exact ⟨_, pss_one (ps_ret (pe_tup (pa_cons pe_str (pa_cons (pv 0) pa_nil)))), _, rfl, (by show 2 ≤ sizeLine; decide), fun p hp => q _ _ (new_same hp) ⟨p, rfl, .inl upd_same⟩⟩
theorem ok_number (F : Fun K "by_number" "by_number" (top 31) f fd) : FnOk P w K mg base CX0 1 f fd ["n"] (spNum K) := by
  refine F.ok (sc_by (N := ["n"]) (by decide +kernel)) (fun vs H Q E h => ?_) fun cdv A outer s H vs Q E hr h => ?_
  · obtain ⟨x, rfl, _⟩ := h
    rfl
  · obtain ⟨x, rfl, q⟩ := h
    exact ⟨_, pss_one (ps_ret (pe_tup (pa_cons pe_str (pa_cons (pv 0) pa_nil)))), _, rfl, (by show 2 ≤ sizeLine; decide), fun p hp => q _ _ (new_same hp) ⟨p, rfl, .inl upd_same⟩⟩
end
end Rwl

/-! W2: the defs that lift a row. -/
namespace Rwl
open PySem PySem.Spec PyProof.Rows L2

section
variable {P : Program} {w : World} {K : PySem.W.Frag} {mg : Str → Option Value} {base : Heap} {f : Addr} {fd : FuncData}
/-- a new list of statements told -/
theorem told {K : PySem.W.Frag} {H H1 : Hp} {us : List V} {ss : List Stm} {Q : VK} (s : Same H H1) (h : StsAt K H1 us ss) (hz : us.length ≤ sizeLine)
    (q : ∀ H' p us, Same H H' → H p = none → H' p = some (.lst us) → StsAt K H' us ss → Q (.ref p) H') : us.length ≤ sizeLine ∧ ∀ p, H1 p = none → Q (.ref p) (upd H1 p (.lst us)) :=
  ⟨hz, fun p hp => q _ p us (s.trans (new_same hp)) (s.free hp) upd_same (h.mv (Tups.of (new_same hp)))⟩
theorem two_line : 2 ≤ sizeLine := by decide
theorem three_line : 3 ≤ sizeLine := by decide
theorem one_line : 1 ≤ sizeLine := by decide
theorem ok_zero (F : Fun K "zero_by" "zero_by" (top 32) f fd) (C : Cal P w K mg base 1 "by_name" ["x"] (spName K)) (g : ∃ a, mg "NOTHING" = some (.ref a) ∧ KTup K a [.str "number", .int 0]) :
    FnOk P w K mg base CX0 2 f fd ["r"] (spZero K) := by
  refine F.ok (sc_by (N := ["r"]) (by decide +kernel)) (fun vs H Q E h => ?_) fun cdv A outer s H vs Q E hr h => ?_
  · obtain ⟨x, rfl, _⟩ := h
    rfl
  · obtain ⟨x, rfl, q⟩ := h
    obtain ⟨a, ga, ka⟩ := g
    refine ⟨_, pss_one (ps_ret (pe_tup (pa_cons pe_str (pa_cons pe_str (pa_cons (pe_tup (pa_cons pe_str (pa_cons (pe_n C hr rfl (pa_cons (pv 0) pa_nil)) (pa_cons (pe_glob (v := .ref a) rfl ga rfl) pa_nil)))) pa_nil))))), ?_⟩
    refine ⟨_, rfl, _, rfl, fun H1 v s1 e1 => ⟨three_line, fun p hp => ⟨three_line, fun p2 hp2 => ?_⟩⟩⟩
    have s2 : Same H1 (upd H1 p (.tup [.str "=", v, .ref a])) := new_same hp
    refine q _ _ (s1.trans (s2.trans (new_same hp2))) ⟨p2, .ref p, rfl, .inl upd_same, ⟨p, v, .ref a, rfl, .inl ?_, ?_, ?_⟩⟩
    · exact new_same hp2 _ _ upd_same
    · exact e1.mv (Tups.of (s2.trans (new_same hp2)))
    · exact ⟨a, rfl, .inr ka⟩
theorem len_lift {P : Row → Prop} : ∀ vs H Q E, spLift K P vs H Q E → vs.length = ["row"].length := by
  intro vs H Q E h
  obtain ⟨v, r, rfl, _⟩ := h
  rfl
theorem ok_lift_set (F : Fun K "lift_set" "lift_set" (top 33) f fd) (C : Cal P w K mg base 1 "by_number" ["n"] (spNum K)) :
    FnOk P w K mg base CX0 3 f fd ["row"] (spLift K fun r => ∃ a n, r = .numd 0 a n) := by
  refine F.ok (sc_by (N := ["row"]) (by decide +kernel)) len_lift fun cdv A outer s H vs Q E hr h => ?_
  obtain ⟨v, r, rfl, ⟨a, n, rfl⟩, ⟨t, rfl, ht⟩, q⟩ := h
  refine ⟨_, pss_one (ps_ret (pe_lst (pa_cons (pe_tup (pa_cons pe_str (pa_cons (pe_ix ix_tup (pv 0) pe_int (fun _ _ => rfl)) (pa_cons (pe_n C (hr.mono (by decide)) rfl (pa_cons (pe_ix ix_tup (pv 0) pe_int (fun _ _ => rfl)) pa_nil)) pa_nil)))) pa_nil))), ?_⟩
  refine ⟨_, rfl, t, _, 1, _, rfl, rfl, ht.sq, rfl, _, rfl, t, _, 2, _, rfl, rfl, ht.sq, rfl, _, rfl, fun H1 v s1 e1 => ⟨three_line, fun p hp => ?_⟩⟩
  refine told (s1.trans (new_same hp)) (ss := stms (.numd 0 a n)) ⟨⟨p, v, rfl, .inl upd_same, e1.mv (Tups.of (new_same hp))⟩, trivial⟩ one_line q
theorem ok_lift_copy (F : Fun K "lift_copy" "lift_copy" (top 34) f fd) (C : Cal P w K mg base 1 "by_name" ["x"] (spName K)) :
    FnOk P w K mg base CX0 3 f fd ["row"] (spLift K fun r => ∃ a b, r = .pair 0 a b) := by
  refine F.ok (sc_by (N := ["row"]) (by decide +kernel)) len_lift fun cdv A outer s H vs Q E hr h => ?_
  obtain ⟨v, r, rfl, ⟨a, b, rfl⟩, ⟨t, rfl, ht⟩, q⟩ := h
  refine ⟨_, pss_one (ps_ret (pe_lst (pa_cons (pe_tup (pa_cons pe_str (pa_cons (pe_ix ix_tup (pv 0) pe_int (fun _ _ => rfl)) (pa_cons (pe_n C (hr.mono (by decide)) rfl (pa_cons (pe_ix ix_tup (pv 0) pe_int (fun _ _ => rfl)) pa_nil)) pa_nil)))) pa_nil))), ?_⟩
  refine ⟨_, rfl, t, _, 1, _, rfl, rfl, ht.sq, rfl, _, rfl, t, _, 2, _, rfl, rfl, ht.sq, rfl, _, rfl, fun H1 v s1 e1 => ⟨three_line, fun p hp => ?_⟩⟩
  exact told (s1.trans (new_same hp)) (ss := stms (.pair 0 a b)) ⟨⟨p, v, rfl, .inl upd_same, e1.mv (Tups.of (new_same hp))⟩, trivial⟩ one_line q
theorem ok_lift_add (F : Fun K "lift_add" "lift_add" (top 35) f fd) (C : Cal P w K mg base 1 "by_name" ["x"] (spName K)) (C2 : Cal P w K mg base 1 "by_number" ["n"] (spNum K)) (C3 : Cal P w K mg base 2 "zero_by" ["r"] (spZero K))
    (g : ∃ t, mg "ROUND" = some (.int 256 t)) :
    FnOk P w K mg base CX0 3 f fd ["row"] (spLift K fun r => ∃ a b, r = .pair 1 a b) := by
  have sc : FnScope ["row", "word", "r", "s", "over"] ["row"] (defScope (top 35)) := sc_by (by decide +kernel)
  refine F.ok sc len_lift fun cdv A outer s H vs Q E hr h => ?_
  obtain ⟨v, r, rfl, ⟨a, b, rfl⟩, ⟨t, rfl, ht⟩, q⟩ := h
  obtain ⟨tk, g⟩ := g
  have hr1 : Room 1 _ := hr.mono (by decide)
  refine ⟨_, pss_cons (ps_asg (pv 0) (pg_tup rfl (pgs_cons (pg_name (i := 1) sc.nd rfl (.inl rfl)) (pgs_cons (pg_name (i := 2) sc.nd rfl (.inl rfl)) (pgs_cons (pg_name (i := 3) sc.nd rfl (.inl rfl)) pgs_nil)))))
    (pss_cons (ps_set (i := 4) sc.nd rfl (.inl rfl) (pe_tup (pa_cons pe_str (pa_cons (pe_tup (pa_cons pe_str (pa_cons (pe_n C2 hr1 rfl (pa_cons (pe_op op_sub (pe_glob (v := .int 256) rfl g ⟨_, rfl⟩) pe_int) pa_nil)) (pa_cons (pe_n C hr1 rfl (pa_cons (pv 2) pa_nil)) pa_nil))))
      (pa_cons (pe_n C hr1 rfl (pa_cons (pv 3) pa_nil)) pa_nil)))))
    (pss_one (ps_ret (pe_lst (pa_cons (pe_tup (pa_cons pe_str (pa_cons pe_str (pa_cons (pv 4) pa_nil))))
      (pa_cons (pe_tup (pa_cons pe_str (pa_cons (pv 2) (pa_cons (pe_tup (pa_cons pe_str (pa_cons (pe_n C hr1 rfl (pa_cons (pv 2) pa_nil)) (pa_cons (pe_n C hr1 rfl (pa_cons (pv 3) pa_nil)) pa_nil)))) pa_nil))))
      (pa_cons (pe_n C3 hr rfl (pa_cons (pv 2) pa_nil)) pa_nil))))))), ?_⟩
  refine ⟨_, rfl, t, _, rfl, ht.sq, rfl, _, _, rfl, _, _, rfl, _, _, rfl, rfl, ?_⟩
  refine ⟨_, _, rfl, rfl, _, rfl, fun H1 v1 s1 e1 => ⟨_, rfl, _, rfl, fun H2 v2 s2 e2 => ⟨three_line, fun p3 n3 => ?_⟩⟩⟩
  have s3 := new_same (o := .tup [.str "-", v1, v2]) n3
  refine ⟨_, rfl, _, rfl, fun H4 v4 s4 e4 => ⟨three_line, fun p5 n5 => ?_⟩⟩
  have s5 := new_same (o := .tup [.str "<", .ref p3, v4]) n5
  refine ⟨_, rfl, three_line, fun p6 n6 => ?_⟩
  have s6 := new_same (o := .tup [.str "set", .str "less", .ref p5]) n6
  refine ⟨_, rfl, _, rfl, _, rfl, fun H7 v7 s7 e7 => ⟨_, rfl, _, rfl, fun H8 v8 s8 e8 => ⟨three_line, fun p9 n9 => ?_⟩⟩⟩
  have s9 := new_same (o := .tup [.str "+", v7, v8]) n9
  refine ⟨three_line, fun p10 n10 => ?_⟩
  have s10 := new_same (o := .tup [.str "set", .str (bx a), .ref p9]) n10
  refine ⟨_, rfl, _, rfl, fun H11 v11 s11 e11 => ?_⟩
  have t10 : Tups _ H11 := Tups.of s11
  have t9 : Tups _ H11 := Tups.of (s10.trans s11)
  have t8 : Tups H8 H11 := Tups.of (s9.trans (s10.trans s11))
  have t7 : Tups H7 H11 := Tups.of (s8.trans (s9.trans (s10.trans s11)))
  have u6 := s7.trans (s8.trans (s9.trans (s10.trans s11)))
  have u5 := s6.trans u6
  have u4 := s5.trans u5
  have u3 := s4.trans u4
  have u2 := s3.trans u3
  have u1 := s2.trans u2
  refine told (s1.trans u1) (ss := stms (.pair 1 a b)) ⟨⟨p6, .ref p5, rfl, .inl (u6 _ _ upd_same), ⟨p5, .ref p3, v4, rfl, .inl (u5 _ _ upd_same), ⟨p3, v1, v2, rfl, .inl (u3 _ _ upd_same), e1.mv (Tups.of u1), e2.mv (Tups.of u2)⟩, e4.mv (Tups.of u4)⟩⟩,
    ⟨p10, .ref p9, rfl, .inl (s11 _ _ upd_same), ⟨p9, v7, v8, rfl, .inl (t9 _ _ upd_same), e7.mv t7, e8.mv t8⟩⟩, e11, trivial⟩ three_line q
theorem ok_lift_sub (F : Fun K "lift_sub" "lift_sub" (top 36) f fd) (C : Cal P w K mg base 1 "by_name" ["x"] (spName K)) (C3 : Cal P w K mg base 2 "zero_by" ["r"] (spZero K)) :
    FnOk P w K mg base CX0 3 f fd ["row"] (spLift K fun r => ∃ a b, r = .pair 2 a b) := by
  have sc : FnScope ["row", "word", "r", "s"] ["row"] (defScope (top 36)) := sc_by (by decide +kernel)
  refine F.ok sc len_lift fun cdv A outer s H vs Q E hr h => ?_
  obtain ⟨v, r, rfl, ⟨a, b, rfl⟩, ⟨t, rfl, ht⟩, q⟩ := h
  have hr1 : Room 1 _ := hr.mono (by decide)
  refine ⟨_, pss_cons (ps_asg (pv 0) (pg_tup rfl (pgs_cons (pg_name (i := 1) sc.nd rfl (.inl rfl)) (pgs_cons (pg_name (i := 2) sc.nd rfl (.inl rfl)) (pgs_cons (pg_name (i := 3) sc.nd rfl (.inl rfl)) pgs_nil)))))
    (pss_one (ps_ret (pe_lst (pa_cons (pe_tup (pa_cons pe_str (pa_cons pe_str (pa_cons (pe_tup (pa_cons pe_str (pa_cons (pe_n C hr1 rfl (pa_cons (pv 2) pa_nil)) (pa_cons (pe_n C hr1 rfl (pa_cons (pv 3) pa_nil)) pa_nil)))) pa_nil))))
      (pa_cons (pe_tup (pa_cons pe_str (pa_cons (pv 2) (pa_cons (pe_tup (pa_cons pe_str (pa_cons (pe_n C hr1 rfl (pa_cons (pv 2) pa_nil)) (pa_cons (pe_n C hr1 rfl (pa_cons (pv 3) pa_nil)) pa_nil)))) pa_nil))))
      (pa_cons (pe_n C3 hr rfl (pa_cons (pv 2) pa_nil)) pa_nil)))))), ?_⟩
  refine ⟨_, rfl, t, _, rfl, ht.sq, rfl, _, _, rfl, _, _, rfl, _, _, rfl, rfl, ?_⟩
  refine ⟨_, rfl, _, rfl, fun H1 v1 s1 e1 => ⟨_, rfl, _, rfl, fun H2 v2 s2 e2 => ⟨three_line, fun p5 n5 => ?_⟩⟩⟩
  have s5 := new_same (o := .tup [.str "<", v1, v2]) n5
  refine ⟨three_line, fun p6 n6 => ?_⟩
  have s6 := new_same (o := .tup [.str "set", .str "less", .ref p5]) n6
  refine ⟨_, rfl, _, rfl, _, rfl, fun H7 v7 s7 e7 => ⟨_, rfl, _, rfl, fun H8 v8 s8 e8 => ⟨three_line, fun p9 n9 => ?_⟩⟩⟩
  have s9 := new_same (o := .tup [.str "-", v7, v8]) n9
  refine ⟨three_line, fun p10 n10 => ?_⟩
  have s10 := new_same (o := .tup [.str "set", .str (bx a), .ref p9]) n10
  refine ⟨_, rfl, _, rfl, fun H11 v11 s11 e11 => ?_⟩
  have t9 : Tups _ H11 := Tups.of (s10.trans s11)
  have t8 : Tups H8 H11 := Tups.of (s9.trans (s10.trans s11))
  have t7 : Tups H7 H11 := Tups.of (s8.trans (s9.trans (s10.trans s11)))
  have u6 := s7.trans (s8.trans (s9.trans (s10.trans s11)))
  have u5 := s6.trans u6
  have u2 := s5.trans u5
  have u1 := s2.trans u2
  refine told (s1.trans u1) (ss := stms (.pair 2 a b)) ⟨⟨p6, .ref p5, rfl, .inl (u6 _ _ upd_same), ⟨p5, v1, v2, rfl, .inl (u5 _ _ upd_same), e1.mv (Tups.of u1), e2.mv (Tups.of u2)⟩⟩,
    ⟨p10, .ref p9, rfl, .inl (s11 _ _ upd_same), ⟨p9, v7, v8, rfl, .inl (t9 _ _ upd_same), e7.mv t7, e8.mv t8⟩⟩, e11, trivial⟩ three_line q
/-- and, or, xor by its place -/
def bitOp : Nat → Op
  | 3 => .and
  | 4 => .or
  | _ => .xor
def bitKv : List (Key × V) := [(Sum.inr "and", V.str "&"), (Sum.inr "or", V.str "|"), (Sum.inr "xor", V.str "^")]
theorem bit_val : ∀ k, k = 3 ∨ k = 4 ∨ k = 5 → valV (mergeK [] bitKv) (Sum.inr (pairW.getD k "")) = some (.str (bitOp k).sign) := by
  intro k h
  rcases h with rfl | rfl | rfl <;> decide +kernel
theorem bit_stms : ∀ k a b, k = 3 ∨ k = 4 ∨ k = 5 → stms (.pair k a b) = [.set (bx a) (.bin (bitOp k) (.name (bx a)) (.name (bx b))), zeroE a, .set "less" (.num 0)] := by
  intro k a b h
  rcases h with rfl | rfl | rfl <;> rfl
theorem ok_lift_bits (F : Fun K "lift_bits" "lift_bits" (top 37) f fd) (C : Cal P w K mg base 1 "by_name" ["x"] (spName K)) (C3 : Cal P w K mg base 2 "zero_by" ["r"] (spZero K))
    (g : ∃ a, mg "NOTHING" = some (.ref a) ∧ KTup K a [.str "number", .int 0]) :
    FnOk P w K mg base CX0 3 f fd ["row"] (spLift K fun r => ∃ k a b, (k = 3 ∨ k = 4 ∨ k = 5) ∧ r = .pair k a b) := by
  have sc : FnScope ["row", "word", "r", "s", "sign"] ["row"] (defScope (top 37)) := sc_by (by decide +kernel)
  refine F.ok sc len_lift fun cdv A outer s H vs Q E hr h => ?_
  obtain ⟨v, r, rfl, ⟨k, a, b, hk, rfl⟩, ⟨t, rfl, ht⟩, q⟩ := h
  obtain ⟨z, gz, kz⟩ := g
  rw [bit_stms k a b hk] at q
  have hr1 : Room 1 _ := hr.mono (by decide)
  refine ⟨_, pss_cons (ps_asg (pv 0) (pg_tup rfl (pgs_cons (pg_name (i := 1) sc.nd rfl (.inl rfl)) (pgs_cons (pg_name (i := 2) sc.nd rfl (.inl rfl)) (pgs_cons (pg_name (i := 3) sc.nd rfl (.inl rfl)) pgs_nil)))))
    (pss_cons (ps_set (i := 4) sc.nd rfl (.inl rfl) (pe_dget (hu_of hr) (pe_disp (pps_cons pe_str pe_str (pps_cons pe_str pe_str (pps_cons pe_str pe_str pps_nil))) (by rfl) (by rfl) (fun z => by cases z) (by decide)) (pv 1) (fun _ _ => rfl)))
    (pss_one (ps_ret (pe_lst (pa_cons (pe_tup (pa_cons pe_str (pa_cons (pv 2) (pa_cons (pe_tup (pa_cons (pv 4) (pa_cons (pe_n C hr1 rfl (pa_cons (pv 2) pa_nil)) (pa_cons (pe_n C hr1 rfl (pa_cons (pv 3) pa_nil)) pa_nil)))) pa_nil))))
      (pa_cons (pe_n C3 hr rfl (pa_cons (pv 2) pa_nil)) (pa_cons (pe_tup (pa_cons pe_str (pa_cons pe_str (pa_cons (pe_glob (v := .ref z) rfl gz rfl) pa_nil)))) pa_nil))))))), ?_⟩
  refine ⟨_, rfl, t, _, rfl, ht.sq, rfl, _, _, rfl, _, _, rfl, _, _, rfl, rfl, ?_⟩
  intro d nd
  refine ⟨upd_same, bitKv, rfl, (by show 3 ≤ 15; decide), _, rfl, d, _, rfl, .inl ⟨_, Sum.inr (pairW.getD k ""), .inl upd_same, rfl, (bit_val k hk).symm⟩, ?_⟩
  have s0 : Same H (upd (upd H d (.dK [])) d (.dK (mergeK [] bitKv))) := by
    rw [upd_upd]
    exact new_same nd
  refine ⟨_, rfl, _, rfl, _, rfl, _, rfl, fun H7 v7 s7 e7 => ⟨_, rfl, _, rfl, fun H8 v8 s8 e8 => ⟨three_line, fun p9 n9 => ?_⟩⟩⟩
  have s9 := new_same (o := .tup [.str (bitOp k).sign, v7, v8]) n9
  refine ⟨three_line, fun p10 n10 => ?_⟩
  have s10 := new_same (o := .tup [.str "set", .str (bx a), .ref p9]) n10
  refine ⟨_, rfl, _, rfl, fun H11 v11 s11 e11 => ⟨three_line, fun p12 n12 => ?_⟩⟩
  have s12 := new_same (o := .tup [.str "set", .str "less", .ref z]) n12
  have w11 := s11.trans s12
  have w10 := s10.trans w11
  have w9 := s9.trans w10
  have w8 := s8.trans w9
  exact told (s0.trans (s7.trans w8)) (ss := [.set (bx a) (.bin (bitOp k) (.name (bx a)) (.name (bx b))), zeroE a, .set "less" (.num 0)])
    ⟨⟨p10, .ref p9, rfl, .inl (w11 _ _ upd_same), ⟨p9, v7, v8, rfl, .inl (w10 _ _ upd_same), e7.mv (Tups.of w8), e8.mv (Tups.of w9)⟩⟩, e11.mv (Tups.of s12), ⟨p12, .ref z, rfl, .inl upd_same, ⟨z, rfl, .inr kz⟩⟩, trivial⟩ three_line q
theorem ok_lift_test (F : Fun K "lift_test" "lift_test" (top 38) f fd) (C : Cal P w K mg base 1 "by_name" ["x"] (spName K)) (C2 : Cal P w K mg base 1 "by_number" ["n"] (spNum K)) :
    FnOk P w K mg base CX0 3 f fd ["row"] (spLift K fun r => (∃ a b, r = .pair 6 a b) ∨ ∃ a n, r = .numd 1 a n) := by
  have sc : FnScope ["row", "word", "r", "s", "other"] ["row"] (defScope (top 38)) := sc_by (by decide +kernel)
  refine F.ok sc len_lift fun cdv A outer s H vs Q E hr h => ?_
  obtain ⟨v, r, rfl, hk, ⟨t, rfl, ht⟩, q⟩ := h
  have hr1 : Room 1 _ := hr.mono (by decide)
  refine ⟨_, pss_cons (ps_asg (pv 0) (pg_tup rfl (pgs_cons (pg_name (i := 1) sc.nd rfl (.inl rfl)) (pgs_cons (pg_name (i := 2) sc.nd rfl (.inl rfl)) (pgs_cons (pg_name (i := 3) sc.nd rfl (.inl rfl)) pgs_nil)))))
    (pss_cons (ps_set (i := 4) sc.nd rfl (.inl rfl) (pe_ifExp (pt_cmpR op_eq (pv 1) pe_str (nomark _)) (pe_n C hr1 rfl (pa_cons (pv 3) pa_nil)) (pe_n C2 hr1 rfl (pa_cons (pv 3) pa_nil))))
    (pss_one (ps_ret (pe_lst (pa_cons (pe_tup (pa_cons pe_str (pa_cons pe_str (pa_cons (pe_tup (pa_cons pe_str (pa_cons (pe_n C hr1 rfl (pa_cons (pv 2) pa_nil)) (pa_cons (pv 4) pa_nil)))) pa_nil))))
      (pa_cons (pe_tup (pa_cons pe_str (pa_cons pe_str (pa_cons (pe_tup (pa_cons pe_str (pa_cons (pe_n C hr1 rfl (pa_cons (pv 2) pa_nil)) (pa_cons (pv 4) pa_nil)))) pa_nil)))) pa_nil)))))), ?_⟩
  have main : ∀ (a : Nat) (o : Ex) (ss : List Stm) (H1 : Hp) (v1 x z : V) (s1 : Same H H1) (e1 : EAt K H1 v1 o) (es : ss = [.set "zero" (.bin .eq (.name (bx a)) o), .set "less" (.bin .lt (.name (bx a)) o)])
      (q : ∀ H' p us, Same H H' → H p = none → H' p = some (.lst us) → StsAt K H' us ss → Q (.ref p) H'),
      tRet (tLst (tCons (tTup (tCons (tC (.str "set")) (tCons (tC (.str "zero")) (tCons (tTup (tCons (tC (.str "=")) (tCons (tN (spName K) (tCons (tVar 2) tNil)) (tCons (tVar 4) tNil)))) tNil))))
        (tCons (tTup (tCons (tC (.str "set")) (tCons (tC (.str "less")) (tCons (tTup (tCons (tC (.str "<")) (tCons (tN (spName K) (tCons (tVar 2) tNil)) (tCons (tVar 4) tNil)))) tNil)))) tNil)))
        { nx := fun _ H' => Q .non H', rt := Q } [some (.ref t), some x, some (.str (bx a)), some z, some v1] H1 := by
    intro a o ss H1 v1 x z s1 e1 es q
    refine ⟨_, rfl, _, rfl, fun H2 v2 s2 e2 => ⟨_, rfl, three_line, fun p3 n3 => ?_⟩⟩
    have s3 := new_same (o := .tup [.str "=", v2, v1]) n3
    refine ⟨three_line, fun p4 n4 => ?_⟩
    have s4 := new_same (o := .tup [.str "set", .str "zero", .ref p3]) n4
    refine ⟨_, rfl, _, rfl, fun H5 v5 s5 e5 => ⟨_, rfl, three_line, fun p6 n6 => ?_⟩⟩
    have s6 := new_same (o := .tup [.str "<", v5, v1]) n6
    refine ⟨three_line, fun p7 n7 => ?_⟩
    have s7 := new_same (o := .tup [.str "set", .str "less", .ref p6]) n7
    have w6 := s6.trans s7
    have w5 := s5.trans w6
    have w4 := s4.trans w5
    have w3 := s3.trans w4
    have w2 := s2.trans w3
    refine told (s1.trans w2) (ss := ss) ?_ two_line q
    rw [es]
    exact ⟨⟨p4, .ref p3, rfl, .inl (w5 _ _ upd_same), ⟨p3, v2, v1, rfl, .inl (w4 _ _ upd_same), e2.mv (Tups.of w3), e1.mv (Tups.of w2)⟩⟩, ⟨p7, .ref p6, rfl, .inl upd_same, ⟨p6, v5, v1, rfl, .inl (s7 _ _ upd_same), e5.mv (Tups.of w6), e1.mv (Tups.of w2)⟩⟩, trivial⟩
  rcases hk with ⟨a, b, rfl⟩ | ⟨a, n, rfl⟩
  · refine ⟨_, rfl, t, _, rfl, ht.sq, rfl, _, _, rfl, _, _, rfl, _, _, rfl, rfl, ?_⟩
    refine ⟨_, rfl, rfl, _, rfl, ?_⟩
    refine iteT ⟨_, rfl, _, rfl, fun H1 v1 s1 e1 => main a (.name (bx b)) _ H1 v1 _ _ s1 e1 rfl q⟩
  · refine ⟨_, rfl, t, _, rfl, ht.sq, rfl, _, _, rfl, _, _, rfl, _, _, rfl, rfl, ?_⟩
    refine ⟨_, rfl, rfl, _, rfl, ?_⟩
    refine iteF ⟨_, rfl, _, rfl, fun H1 v1 s1 e1 => main a (.num n) _ H1 v1 _ _ s1 e1 rfl q⟩
end
end Rwl

/-! W3: the other lifts. -/
namespace Rwl
open PySem PySem.Spec PyProof.Rows L2

section
variable {P : Program} {w : World} {K : PySem.W.Frag} {mg : Str → Option Value} {base : Heap} {f : Addr} {fd : FuncData}
theorem ok_lift_load (F : Fun K "lift_load" "lift_load" (top 39) f fd) (C : Cal P w K mg base 1 "by_name" ["x"] (spName K)) (C2 : Cal P w K mg base 1 "by_number" ["n"] (spNum K)) (g : ∃ t, mg "CELLS" = some (.int 64 t)) :
    FnOk P w K mg base CX0 3 f fd ["row"] (spLift K fun r => (∃ a b, r = .pair 7 a b) ∨ ∃ a n, r = .numd 2 a n) := by
  have sc : FnScope ["row", "word", "r", "s", "place"] ["row"] (defScope (top 39)) := sc_by (by decide +kernel)
  refine F.ok sc len_lift fun cdv A outer s H vs Q E hr h => ?_
  obtain ⟨v, r, rfl, hk, ⟨t, rfl, ht⟩, q⟩ := h
  obtain ⟨tk, g⟩ := g
  have hr1 : Room 1 _ := hr.mono (by decide)
  refine ⟨_, pss_cons (ps_asg (pv 0) (pg_tup rfl (pgs_cons (pg_name (i := 1) sc.nd rfl (.inl rfl)) (pgs_cons (pg_name (i := 2) sc.nd rfl (.inl rfl)) (pgs_cons (pg_name (i := 3) sc.nd rfl (.inl rfl)) pgs_nil)))))
    (pss_cons (ps_set (i := 4) sc.nd rfl (.inl rfl) (pe_ifExp (pt_cmpR op_eq (pv 1) pe_str (nomark _)) (pe_n C hr1 rfl (pa_cons (pv 3) pa_nil)) (pe_n C2 hr1 rfl (pa_cons (pe_op op_mod (pv 3) (pe_glob (v := .int 64) rfl g ⟨_, rfl⟩)) pa_nil))))
    (pss_one (ps_ret (pe_lst (pa_cons (pe_tup (pa_cons pe_str (pa_cons (pv 2) (pa_cons (pe_tup (pa_cons pe_str (pa_cons (pv 4) pa_nil))) pa_nil)))) pa_nil))))), ?_⟩
  have main : ∀ (a : Nat) (o : Ex) (ss : List Stm) (H1 : Hp) (v1 x z : V) (s1 : Same H H1) (e1 : EAt K H1 v1 o) (es : ss = [.set (bx a) (.cell o)])
      (q : ∀ H' p us, Same H H' → H p = none → H' p = some (.lst us) → StsAt K H' us ss → Q (.ref p) H'),
      tRet (tLst (tCons (tTup (tCons (tC (.str "set")) (tCons (tVar 2) (tCons (tTup (tCons (tC (.str "cell")) (tCons (tVar 4) tNil))) tNil)))) tNil))
        { nx := fun _ H' => Q .non H', rt := Q } [some (.ref t), some x, some (.str (bx a)), some z, some v1] H1 := by
    intro a o ss H1 v1 x z s1 e1 es q
    refine ⟨_, rfl, _, rfl, two_line, fun p3 n3 => ?_⟩
    have s3 := new_same (o := .tup [.str "cell", v1]) n3
    refine ⟨three_line, fun p4 n4 => ?_⟩
    have s4 := new_same (o := .tup [.str "set", .str (bx a), .ref p3]) n4
    refine told (s1.trans (s3.trans s4)) (ss := ss) ?_ one_line q
    rw [es]
    exact ⟨⟨p4, .ref p3, rfl, .inl upd_same, ⟨p3, v1, rfl, .inl (s4 _ _ upd_same), e1.mv (Tups.of (s3.trans s4))⟩⟩, trivial⟩
  rcases hk with ⟨a, b, rfl⟩ | ⟨a, n, rfl⟩
  · refine ⟨_, rfl, t, _, rfl, ht.sq, rfl, _, _, rfl, _, _, rfl, _, _, rfl, rfl, ?_⟩
    refine ⟨_, rfl, rfl, _, rfl, ?_⟩
    refine iteT ⟨_, rfl, _, rfl, fun H1 v1 s1 e1 => main a (.name (bx b)) _ H1 v1 _ _ s1 e1 rfl q⟩
  · refine ⟨_, rfl, t, _, rfl, ht.sq, rfl, _, _, rfl, _, _, rfl, _, _, rfl, rfl, ?_⟩
    refine ⟨_, rfl, rfl, _, rfl, ?_⟩
    refine iteF ⟨_, rfl, _, _, rfl, rfl, (by show (0 : Int) < 64; decide), _, rfl, fun H1 v1 s1 e1 => main a (.num (n % 64)) _ H1 v1 _ _ s1 e1 rfl q⟩
theorem ok_lift_store (F : Fun K "lift_store" "lift_store" (top 40) f fd) (C : Cal P w K mg base 1 "by_name" ["x"] (spName K)) (C2 : Cal P w K mg base 1 "by_number" ["n"] (spNum K)) (g : ∃ t, mg "CELLS" = some (.int 64 t)) :
    FnOk P w K mg base CX0 3 f fd ["row"] (spLift K fun r => (∃ a b, r = .pair 8 a b) ∨ ∃ a n, r = .numd 3 a n) := by
  have sc : FnScope ["row", "word", "r", "s"] ["row"] (defScope (top 40)) := sc_by (by decide +kernel)
  refine F.ok sc len_lift fun cdv A outer s H vs Q E hr h => ?_
  obtain ⟨v, r, rfl, hk, ⟨t, rfl, ht⟩, q⟩ := h
  obtain ⟨tk, g⟩ := g
  have hr1 : Room 1 _ := hr.mono (by decide)
  refine ⟨_, pss_cons (ps_asg (pv 0) (pg_tup rfl (pgs_cons (pg_name (i := 1) sc.nd rfl (.inl rfl)) (pgs_cons (pg_name (i := 2) sc.nd rfl (.inl rfl)) (pgs_cons (pg_name (i := 3) sc.nd rfl (.inl rfl)) pgs_nil)))))
    (pss_one (ps_ret (pe_lst (pa_cons (pe_ifExp (pt_cmpR op_eq (pv 1) pe_str (nomark _))
      (pe_tup (pa_cons pe_str (pa_cons (pe_n C hr1 rfl (pa_cons (pv 2) pa_nil)) (pa_cons (pe_n C hr1 rfl (pa_cons (pv 3) pa_nil)) pa_nil))))
      (pe_tup (pa_cons pe_str (pa_cons (pe_n C2 hr1 rfl (pa_cons (pe_op op_mod (pv 3) (pe_glob (v := .int 64) rfl g ⟨_, rfl⟩)) pa_nil)) (pa_cons (pe_n C hr1 rfl (pa_cons (pv 2) pa_nil)) pa_nil))))) pa_nil)))), ?_⟩
  rcases hk with ⟨a, b, rfl⟩ | ⟨a, n, rfl⟩
  · refine ⟨_, rfl, t, _, rfl, ht.sq, rfl, _, _, rfl, _, _, rfl, _, _, rfl, rfl, ?_⟩
    refine ⟨_, rfl, rfl, _, rfl, ?_⟩
    refine iteT ⟨_, rfl, _, rfl, fun H1 v1 s1 e1 => ⟨_, rfl, _, rfl, fun H2 v2 s2 e2 => ⟨three_line, fun p3 n3 => ?_⟩⟩⟩
    have s3 := new_same (o := .tup [.str "cell", v1, v2]) n3
    exact told (s1.trans (s2.trans s3)) (ss := stms (.pair 8 a b)) ⟨⟨p3, v1, v2, rfl, .inl upd_same, e1.mv (Tups.of (s2.trans s3)), e2.mv (Tups.of s3)⟩, trivial⟩ one_line q
  · refine ⟨_, rfl, t, _, rfl, ht.sq, rfl, _, _, rfl, _, _, rfl, _, _, rfl, rfl, ?_⟩
    refine ⟨_, rfl, rfl, _, rfl, ?_⟩
    refine iteF ⟨_, rfl, _, _, rfl, rfl, (by show (0 : Int) < 64; decide), _, rfl, fun H1 v1 s1 e1 => ⟨_, rfl, _, rfl, fun H2 v2 s2 e2 => ⟨three_line, fun p3 n3 => ?_⟩⟩⟩
    have s3 := new_same (o := .tup [.str "cell", v1, v2]) n3
    exact told (s1.trans (s2.trans s3)) (ss := stms (.numd 3 a n)) ⟨⟨p3, v1, v2, rfl, .inl upd_same, e1.mv (Tups.of (s2.trans s3)), e2.mv (Tups.of s3)⟩, trivial⟩ one_line q
theorem ok_lift_named (F : Fun K "lift_named" "lift_named" (top 41) f fd) :
    FnOk P w K mg base CX0 3 f fd ["row"] (spLift K fun r => ∃ k a, (k = 0 ∨ k = 3) ∧ r = .single k a) := by
  have sc : FnScope ["row"] ["row"] (defScope (top 41)) := sc_by (by decide +kernel)
  refine F.ok sc len_lift fun cdv A outer s H vs Q E hr h => ?_
  obtain ⟨v, r, rfl, ⟨k, a, hk, rfl⟩, ⟨t, rfl, ht⟩, q⟩ := h
  refine ⟨_, pss_one (ps_ret (pe_lst (pa_cons (pe_tup (pa_cons (pe_ix ix_tup (pv 0) pe_int (fun _ _ => rfl)) (pa_cons (pe_ix ix_tup (pv 0) pe_int (fun _ _ => rfl)) pa_nil))) pa_nil))), ?_⟩
  refine ⟨_, rfl, t, _, 0, _, rfl, rfl, ht.sq, rfl, _, rfl, t, _, 1, _, rfl, rfl, ht.sq, rfl, two_line, fun p3 n3 => ?_⟩
  rcases hk with rfl | rfl
  · exact told (new_same n3) (ss := stms (.single 0 a)) ⟨⟨p3, rfl, .inl upd_same⟩, trivial⟩ one_line q
  · exact told (new_same n3) (ss := stms (.single 3 a)) ⟨⟨p3, rfl, .inl upd_same⟩, trivial⟩ one_line q
theorem ok_lift_told (F : Fun K "lift_told" "lift_told" (top 42) f fd) (C : Cal P w K mg base 1 "by_name" ["x"] (spName K)) :
    FnOk P w K mg base CX0 3 f fd ["row"] (spLift K fun r => ∃ k a, (k = 1 ∨ k = 2) ∧ r = .single k a) := by
  have sc : FnScope ["row"] ["row"] (defScope (top 42)) := sc_by (by decide +kernel)
  refine F.ok sc len_lift fun cdv A outer s H vs Q E hr h => ?_
  obtain ⟨v, r, rfl, ⟨k, a, hk, rfl⟩, ⟨t, rfl, ht⟩, q⟩ := h
  refine ⟨_, pss_one (ps_ret (pe_lst (pa_cons (pe_tup (pa_cons (pe_ix ix_tup (pv 0) pe_int (fun _ _ => rfl)) (pa_cons (pe_n C (hr.mono (by decide)) rfl (pa_cons (pe_ix ix_tup (pv 0) pe_int (fun _ _ => rfl)) pa_nil)) pa_nil))) pa_nil))), ?_⟩
  refine ⟨_, rfl, t, _, 0, _, rfl, rfl, ht.sq, rfl, _, rfl, t, _, 1, _, rfl, rfl, ht.sq, rfl, _, rfl, fun H1 v1 s1 e1 => ⟨two_line, fun p3 n3 => ?_⟩⟩
  have s3 := new_same (o := .tup [.str (singleW.getD k ""), v1]) n3
  rcases hk with rfl | rfl
  · exact told (s1.trans s3) (ss := stms (.single 1 a)) ⟨⟨p3, v1, rfl, .inl upd_same, e1.mv (Tups.of s3)⟩, trivial⟩ one_line q
  · exact told (s1.trans s3) (ss := stms (.single 2 a)) ⟨⟨p3, v1, rfl, .inl upd_same, e1.mv (Tups.of s3)⟩, trivial⟩ one_line q
theorem ok_lift_nothing (F : Fun K "lift_nothing" "lift_nothing" (top 43) f fd) :
    FnOk P w K mg base CX0 3 f fd ["row"] (spLift K fun r => (∃ k, r = .alone k) ∨ ∃ k n, r = .jump k n) := by
  have sc : FnScope ["row"] ["row"] (defScope (top 43)) := sc_by (by decide +kernel)
  refine F.ok sc len_lift fun cdv A outer s H vs Q E hr h => ?_
  obtain ⟨v, r, rfl, hk, ⟨t, rfl, ht⟩, q⟩ := h
  refine ⟨_, pss_one (ps_ret (pe_lst pa_nil)), ?_⟩
  rcases hk with ⟨k, rfl⟩ | ⟨k, n, rfl⟩
  · exact told (Same.refl H) (ss := []) trivial (Nat.zero_le _) q
  · exact told (Same.refl H) (ss := []) trivial (Nat.zero_le _) q
end
end Rwl

/-! W4: worth_of. -/
namespace Rwl
open PySem PySem.Spec PyProof.Rows L2

def nkv (f : Nm) : List (Key × V) := keys.map fun x => (Sum.inr x, V.int (f x))
def Ex.depth : Ex → Nat
  | .num _ => 0
  | .name _ => 0
  | .cell e => e.depth + 1
  | .not e => e.depth + 1
  | .bin _ a b => max a.depth b.depth + 1
def Ex.ok : Ex → Prop
  | .num _ => True
  | .name x => x ∈ keys
  | .cell e => e.ok
  | .not e => e.ok
  | .bin _ a b => a.ok ∧ b.ok
theorem val_map {f : Nm} {x : Str} : ∀ {ks : List Str}, x ∈ ks → valV (ks.map fun x => ((Sum.inr x : Key), V.int (f x))) (Sum.inr x) = some (.int (f x))
  | [], h => by cases h
  | y :: r, h => by
    by_cases e : y = x
    · subst e
      exact valV_pos rfl
    · rw [List.map_cons, valV_neg (fun q => e (Sum.inr.inj q))]
      exact val_map ((List.mem_cons.mp h).resolve_left fun q => e q.symm)
theorem val_nkv {f : Nm} {x : Str} (h : x ∈ keys) : valV (nkv f) (Sum.inr x) = some (.int (f x)) := val_map h
theorem cell_at {c : List Int} (h : c.length = 64) (x : Int) : atI (c.map V.int) (x % 64) = some (.int (c.getD (x % 64).toNat 0)) := by
  have h0 : 0 ≤ x % 64 := Int.emod_nonneg _ (by decide)
  have h1 : x % 64 < 64 := Int.emod_lt_of_pos _ (by decide)
  obtain ⟨j, e⟩ : ∃ j : Nat, x % 64 = (j : Int) := ⟨(x % 64).toNat, by omega⟩
  rw [e]
  refine atI_nat ?_
  have hj : j < c.length := by omega
  have e2 : ((j : Int)).toNat = j := by omega
  rw [e2, List.getElem?_map, List.getElem?_eq_getElem hj, List.getD_eq_getElem?_getD, List.getElem?_eq_getElem hj]
  rfl
/-- what a worth is asked over -/
structure Wt (K : PySem.W.Frag) (d : Nat) (H : Hp) (v : V) (e : Ex) (nd cd : Addr) (f : Nm) (c : List Int) : Prop where
  dep : e.depth ≤ d
  ok : e.ok
  at_ : EAt K H v e
  nm : H nd = some (.dK (nkv f))
  cl : H cd = some (.lst (c.map V.int))
  len : c.length = 64
theorem Wt.mv {K : PySem.W.Frag} {d : Nat} {H H' : Hp} {v : V} {e : Ex} {nd cd : Addr} {f : Nm} {c : List Int} (h : Wt K d H v e nd cd f c) (s : Same H H') : Wt K d H' v e nd cd f c :=
  ⟨h.dep, h.ok, h.at_.mv (Tups.of s), s _ _ h.nm, s _ _ h.cl, h.len⟩
def spWorth (K : PySem.W.Frag) (d : Nat) : Sp := fun vs H Q _ => ∃ v e nd cd f c, vs = [v, .ref nd, .ref cd] ∧ Wt K d H v e nd cd f c ∧ ∀ H', Same H H' → Q (.int (worth f c e)) H'
def spNumW : Sp := fun vs H Q _ => ∃ l n y z, vs = [.ref l, y, z] ∧ H l = some (.lst [.int n]) ∧ Q (.int n) H
def spNameW : Sp := fun vs H Q _ => ∃ l x nd f z, vs = [.ref l, .ref nd, z] ∧ H l = some (.lst [.str x]) ∧ H nd = some (.dK (nkv f)) ∧ x ∈ keys ∧ Q (.int (f x)) H
def spCellW (K : PySem.W.Frag) (d : Nat) : Sp := fun vs H Q _ => ∃ l v e nd cd f c, vs = [.ref l, .ref nd, .ref cd] ∧ H l = some (.lst [v]) ∧ Wt K d H v e nd cd f c ∧ ∀ H', Same H H' → Q (.int (c.getD (worth f c e % 64).toNat 0)) H'
def spNotW (K : PySem.W.Frag) (d : Nat) : Sp := fun vs H Q _ => ∃ l v e nd cd f c, vs = [.ref l, .ref nd, .ref cd] ∧ H l = some (.lst [v]) ∧ Wt K d H v e nd cd f c ∧ ∀ H', Same H H' → Q (.int (if decide (worth f c e = 0) = true then 1 else 0)) H'
abbrev wps : List Str := ["e", "names", "cells"]
abbrev rps : List Str := ["rest", "names", "cells"]
/-- a def at f, called through a value -/
def Val (P : Program) (w : World) (K : PySem.W.Frag) (mg : Str → Option Value) (base : Heap) (k : Nat) (f : Addr) (ps : List Str) (sp : Sp) : Prop :=
  ∃ fd, FnOk P w K mg base CX0 k f fd ps sp ∧ PySem.W.keepIn K (.ref f) = true ∧ Binds K fd ps []
section
variable {P : Program} {w : World} {K : PySem.W.Frag} {mg : Str → Option Value} {base : Heap} {f : Addr} {fd : FuncData}
theorem ok_numW (F : Fun K "number_worth" "number_worth" (top 16) f fd) : FnOk P w K mg base CX0 1 f fd rps spNumW := by
  refine F.ok (sc_by (N := rps) (by decide +kernel)) (fun vs H Q E h => ?_) fun cdv A outer s H vs Q E hr h => ?_
  · obtain ⟨l, n, y, z, rfl, _⟩ := h
    rfl
  · obtain ⟨l, n, y, z, rfl, hl, q⟩ := h
    exact ⟨_, pss_one (ps_ret (pe_ix ix_list (pv 0) pe_int (fun _ _ => rfl))), _, rfl, l, _, 0, _, rfl, rfl, SqL.of hl, rfl, q⟩
theorem ok_nameW (F : Fun K "name_worth" "name_worth" (top 17) f fd) : FnOk P w K mg base CX0 1 f fd rps spNameW := by
  refine F.ok (sc_by (N := rps) (by decide +kernel)) (fun vs H Q E h => ?_) fun cdv A outer s H vs Q E hr h => ?_
  · obtain ⟨l, x, nd, f, z, rfl, _⟩ := h
    rfl
  · obtain ⟨l, x, nd, f, z, rfl, hl, hn, hx, q⟩ := h
    refine ⟨_, pss_one (ps_ret (pe_dget2 (hu_of hr) (pv 1) (pe_ix ix_list (pv 0) pe_int (fun _ _ => rfl)) pe_int ⟨rfl, rfl, rfl, rfl⟩)), ?_⟩
    refine ⟨_, rfl, nd, rfl, .inl ⟨_, .inl hn⟩, _, rfl, l, _, 0, _, rfl, rfl, SqL.of hl, rfl, some (.int (f x)), .inl ⟨_, Sum.inr x, .inl hn, rfl, (val_nkv hx).symm⟩, q⟩
theorem ok_cellW {d : Nat} (F : Fun K "cell_worth" "cell_worth" (top 18) f fd) (C : Cal P w K mg base (2 * d + 2) "worth_of" wps (spWorth K d)) (g : ∃ t, mg "CELLS" = some (.int 64 t)) :
    FnOk P w K mg base CX0 (2 * d + 3) f fd rps (spCellW K d) := by
  refine F.ok (sc_by (N := rps) (by decide +kernel)) (fun vs H Q E h => ?_) fun cdv A outer s H vs Q E hr h => ?_
  · obtain ⟨l, v, e, nd, cd, f, c, rfl, _⟩ := h
    rfl
  · obtain ⟨l, v, e, nd, cd, f, c, rfl, hl, hw, q⟩ := h
    obtain ⟨t, g⟩ := g
    refine ⟨_, pss_one (ps_ret (pe_ix ix_list (pv 2) (pe_op op_mod (pe_n C hr rfl (pa_cons (pe_ix ix_list (pv 0) pe_int (fun _ _ => rfl)) (pa_cons (pv 1) (pa_cons (pv 2) pa_nil)))) (pe_glob (v := .int 64) rfl g ⟨_, rfl⟩)) (fun _ _ => rfl))), ?_⟩
    refine ⟨_, rfl, _, rfl, l, _, 0, _, rfl, rfl, SqL.of hl, rfl, _, rfl, _, rfl, v, e, nd, cd, f, c, rfl, hw, fun H' s1 => ?_⟩
    exact ⟨_, _, rfl, rfl, (by show (0 : Int) < 64; decide), cd, _, _, _, rfl, rfl, SqL.of (s1 _ _ hw.cl), cell_at hw.len _, q _ s1⟩
theorem ok_notW {d : Nat} (F : Fun K "not_worth" "not_worth" (top 19) f fd) (C : Cal P w K mg base (2 * d + 2) "worth_of" wps (spWorth K d)) (g : mg "int" = none) :
    FnOk P w K mg base CX0 (2 * d + 3) f fd rps (spNotW K d) := by
  refine F.ok (sc_by (N := rps) (by decide +kernel)) (fun vs H Q E h => ?_) fun cdv A outer s H vs Q E hr h => ?_
  · obtain ⟨l, v, e, nd, cd, f, c, rfl, _⟩ := h
    rfl
  · obtain ⟨l, v, e, nd, cd, f, c, rfl, hl, hw, q⟩ := h
    refine ⟨_, pss_one (ps_ret (pe_callTy call_int1 (by rfl) g (by decide +kernel) (pa_cons (pe_cmpR op_eq (pe_n C hr rfl (pa_cons (pe_ix ix_list (pv 0) pe_int (fun _ _ => rfl)) (pa_cons (pv 1) (pa_cons (pv 2) pa_nil)))) pe_int (nomark _)) pa_nil))), ?_⟩
    refine ⟨_, rfl, l, _, 0, _, rfl, rfl, SqL.of hl, rfl, _, rfl, _, rfl, v, e, nd, cd, f, c, rfl, hw, fun H' s1 => ?_⟩
    refine ⟨rfl, .inr ⟨_, rfl, ?_⟩⟩
    have e1 : decide (V.int (worth f c e) = V.int 0) = decide (worth f c e = 0) := decide_eq_decide.mpr ⟨fun h => V.int.inj h, fun h => by rw [h]⟩
    show Q (.int (if decide (V.int (worth f c e) = V.int 0) = true then 1 else 0)) H'
    rw [e1]
    exact q _ s1
/-- the tables of signs and of plain worths -/
structure Tables (P : Program) (w : World) (K : PySem.W.Frag) (mg : Str → Option Value) (base : Heap) : Prop where
  signs : ∃ d, mg "SIGNS" = some (.ref d) ∧ (∀ o : Op, ∃ fo, KMap K w d (Sum.inr o.sign) (some (.ref fo)) ∧ Val P w K mg base 1 fo ["one", "other"] (spSign o)) ∧
    KMap K w d (Sum.inr "number") none ∧ KMap K w d (Sum.inr "name") none ∧ KMap K w d (Sum.inr "cell") none ∧ KMap K w d (Sum.inr "not") none
  plain : ∃ d, mg "PLAIN" = some (.ref d) ∧
    (∃ f1, KMap K w d (Sum.inr "number") (some (.ref f1)) ∧ Val P w K mg base 1 f1 rps spNumW) ∧
    (∃ f2, KMap K w d (Sum.inr "name") (some (.ref f2)) ∧ Val P w K mg base 1 f2 rps spNameW) ∧
    (∃ f3, KMap K w d (Sum.inr "cell") (some (.ref f3)) ∧ ∀ n, Cal P w K mg base (2 * n + 2) "worth_of" wps (spWorth K n) → Val P w K mg base (2 * n + 3) f3 rps (spCellW K n)) ∧
    (∃ f4, KMap K w d (Sum.inr "not") (some (.ref f4)) ∧ ∀ n, Cal P w K mg base (2 * n + 2) "worth_of" wps (spWorth K n) → Val P w K mg base (2 * n + 3) f4 rps (spNotW K n))
abbrev wN : List Str := ["e", "names", "cells", "word", "rest", "sign", "first", "second", "plain"]
theorem worth_plain {cdv : Value} {A : Around} {outer : List Env} {s : Shared} {H : Hp} {E : XK} {Q : VK} {j : Nat} {dS dP fp a nd cd : Addr} {x : Str} {r : List V} {sp : Sp}
    (hr : Room j (A.deeper (envOfC "worth_of" (defScope (top 29)) s.heap.objs.size f cdv))) (gS : mg "SIGNS" = some (.ref dS)) (gP : mg "PLAIN" = some (.ref dP)) (ht : TupAt K H a (.str x :: r))
    (no : KMap K w dS (Sum.inr x) none) (yes : KMap K w dP (Sum.inr x) (some (.ref fp))) (vl : Val P w K mg base j fp rps sp) (q : ∀ H' l, Same H H' → H' l = some (.lst r) → sp [.ref l, .ref nd, .ref cd] H' Q E0) :
    ∃ t, PSs (cxOf CX0 P w K mg base wN "worth_of" (defScope (top 29)) f cdv A outer s H E).nox (defBody (top 29)) t ∧ t { nx := fun _ H' => Q .non H', rt := Q } (start wN [.ref a, .ref nd, .ref cd]) H := by
  have nd' : wN.Nodup := by decide +kernel
  obtain ⟨fdp, G, kp, b⟩ := vl
  refine ⟨_, pss_cons (ps_asg (pv 0) (pg_star rfl (pg_name (i := 3) nd' rfl (.inl rfl)) (pg_name (i := 4) nd' rfl (.inl rfl))))
    (pss_cons (ps_if (pt_cmpR op_kin (pv 3) (pe_glob (v := .ref dS) rfl gS rfl) (by rfl)) pss_never pss_nil)
    (pss_cons (ps_set (i := 8) nd' rfl (.inl rfl) (pe_ix ix_kmap (pe_glob (v := .ref dP) rfl gP rfl) (pv 3) (fun _ _ => rfl)))
    (pss_one (ps_ret (pe_callL (i := 8) (dvs := []) G hr rfl (.inl rfl) kp b .nil pass0 (pa_cons (pv 4) (pa_cons (pv 1) (pa_cons (pv 2) pa_nil)))))))), ?_⟩
  refine ⟨_, rfl, a, _, r, rfl, ht.sq, fun p np => ?_⟩
  refine ⟨_, rfl, Sum.inr x, dS, _, rfl, rfl, no, _, rfl, iteF ?_⟩
  refine ⟨_, rfl, Sum.inr x, dP, _, rfl, rfl, yes, ?_⟩
  exact ⟨rfl, _, rfl, _, rfl, _, rfl, q _ p (new_same np) upd_same⟩
theorem worth_bin {cdv : Value} {A : Around} {outer : List Env} {s : Shared} {H : Hp} {E : XK} {Q : VK} {d : Nat} {dS fo a nd cd : Addr} {o : Op} {u1 u2 : V} {e1 e2 : Ex} {fn : Nm} {c : List Int}
    (hr : Room (2 * d + 2) (A.deeper (envOfC "worth_of" (defScope (top 29)) s.heap.objs.size f cdv))) (C : Cal P w K mg base (2 * d + 2) "worth_of" wps (spWorth K d)) (gS : mg "SIGNS" = some (.ref dS)) (ht : TupAt K H a [.str o.sign, u1, u2])
    (yes : KMap K w dS (Sum.inr o.sign) (some (.ref fo))) (vl : Val P w K mg base 1 fo ["one", "other"] (spSign o)) (w1 : Wt K d H u1 e1 nd cd fn c) (w2 : Wt K d H u2 e2 nd cd fn c)
    (q : ∀ H', Same H H' → Q (.int (worth fn c (.bin o e1 e2))) H') :
    ∃ t, PSs (cxOf CX0 P w K mg base wN "worth_of" (defScope (top 29)) f cdv A outer s H E).nox (defBody (top 29)) t ∧ t { nx := fun _ H' => Q .non H', rt := Q } (start wN [.ref a, .ref nd, .ref cd]) H := by
  have nd' : wN.Nodup := by decide +kernel
  obtain ⟨fdo, G, kp, b⟩ := vl
  refine ⟨_, pss_cons (ps_asg (pv 0) (pg_star rfl (pg_name (i := 3) nd' rfl (.inl rfl)) (pg_name (i := 4) nd' rfl (.inl rfl))))
    (pss_cons (ps_if (pt_cmpR op_kin (pv 3) (pe_glob (v := .ref dS) rfl gS rfl) (by rfl))
      (pss_cons (ps_set (i := 5) nd' rfl (.inl rfl) (pe_ix ix_kmap (pe_glob (v := .ref dS) rfl gS rfl) (pv 3) (fun _ _ => rfl)))
      (pss_cons (ps_asg (pv 4) (pg_unl rfl (pgs_cons (pg_name (i := 6) nd' rfl (.inl rfl)) (pgs_cons (pg_name (i := 7) nd' rfl (.inl rfl)) pgs_nil))))
      (pss_one (ps_ret (pe_callL (i := 5) (dvs := []) G (hr.mono (by omega)) rfl (.inl rfl) kp b .nil pass0 (pa_cons (pe_n C hr rfl (pa_cons (pv 6) (pa_cons (pv 1) (pa_cons (pv 2) pa_nil)))) (pa_cons (pe_n C hr rfl (pa_cons (pv 7) (pa_cons (pv 1) (pa_cons (pv 2) pa_nil)))) pa_nil)))))))
      pss_nil) pss_never), ?_⟩
  refine ⟨_, rfl, a, _, _, rfl, ht.sq, fun p np => ?_⟩
  have s0 : Same H (upd H p (.lst [u1, u2])) := new_same np
  refine ⟨_, rfl, Sum.inr o.sign, dS, _, rfl, rfl, yes, _, rfl, iteT ?_⟩
  refine ⟨_, rfl, Sum.inr o.sign, dS, _, rfl, rfl, yes, ?_⟩
  refine ⟨_, rfl, p, _, rfl, SqL.of upd_same, rfl, _, _, rfl, _, _, rfl, rfl, ?_⟩
  refine ⟨rfl, _, rfl, _, rfl, _, rfl, u1, e1, nd, cd, fn, c, rfl, w1.mv s0, fun H1 s1 => ?_⟩
  refine ⟨_, rfl, _, rfl, _, rfl, u2, e2, nd, cd, fn, c, rfl, w2.mv (s0.trans s1), fun H2 s2 => ?_⟩
  exact ⟨_, _, rfl, q H2 (s0.trans (s1.trans s2))⟩
theorem ok_worth (F : Fun K "worth_of" "worth_of" (top 29) f fd) (g : mg "worth_of" = some (.ref f)) (b : Binds K fd wps []) (T : Tables P w K mg base) :
    ∀ d, FnOk P w K mg base CX0 (2 * d + 2) f fd wps (spWorth K d) := by
  have sc : FnScope wN wps (defScope (top 29)) := sc_by (by decide +kernel)
  obtain ⟨dS, gS, sg, sN, sM, sC, sO⟩ := T.signs
  obtain ⟨dP, gP, ⟨f1, k1, v1⟩, ⟨f2, k2, v2⟩, ⟨f3, k3, v3⟩, ⟨f4, k4, v4⟩⟩ := T.plain
  intro d
  induction d with
  | zero =>
    refine F.ok sc (fun vs H Q E h => ?_) fun cdv A outer s H vs Q E hr h => ?_
    · obtain ⟨v, e, nd, cd, f, c, rfl, _⟩ := h
      rfl
    · obtain ⟨v, e, nd, cd, fn, c, rfl, hw, q⟩ := h
      cases e with
      | num n =>
        obtain ⟨a, rfl, ht⟩ := hw.at_
        exact worth_plain hr gS gP ht sN k1 v1 fun H' l s1 hl => ⟨l, n, _, _, rfl, hl, q H' s1⟩
      | name x =>
        obtain ⟨a, rfl, ht⟩ := hw.at_
        exact worth_plain hr gS gP ht sM k2 v2 fun H' l s1 hl => ⟨l, x, nd, fn, _, rfl, hl, s1 _ _ hw.nm, hw.ok, q H' s1⟩
      | cell e => exact absurd hw.dep (Nat.not_succ_le_zero _)
      | not e => exact absurd hw.dep (Nat.not_succ_le_zero _)
      | bin o e1 e2 => exact absurd hw.dep (Nat.not_succ_le_zero _)
  | succ d ih =>
    have C : Cal P w K mg base (2 * d + 2) "worth_of" wps (spWorth K d) := ⟨f, fd, ih, g, F.kp, b⟩
    refine F.ok sc (fun vs H Q E h => ?_) fun cdv A outer s H vs Q E hr h => ?_
    · obtain ⟨v, e, nd, cd, f, c, rfl, _⟩ := h
      rfl
    · obtain ⟨v, e, nd, cd, fn, c, rfl, hw, q⟩ := h
      cases e with
      | num n =>
        obtain ⟨a, rfl, ht⟩ := hw.at_
        exact worth_plain (hr.mono (by omega)) gS gP ht sN k1 v1 fun H' l s1 hl => ⟨l, n, _, _, rfl, hl, q H' s1⟩
      | name x =>
        obtain ⟨a, rfl, ht⟩ := hw.at_
        exact worth_plain (hr.mono (by omega)) gS gP ht sM k2 v2 fun H' l s1 hl => ⟨l, x, nd, fn, _, rfl, hl, s1 _ _ hw.nm, hw.ok, q H' s1⟩
      | cell e =>
        obtain ⟨a, u, rfl, ht, he⟩ := hw.at_
        exact worth_plain hr gS gP ht sC k3 (v3 d C) fun H' l s1 hl => ⟨l, u, e, nd, cd, fn, c, rfl, hl, ⟨Nat.le_of_succ_le_succ hw.dep, hw.ok, he.mv (Tups.of s1), s1 _ _ hw.nm, s1 _ _ hw.cl, hw.len⟩, fun H2 s2 => q H2 (s1.trans s2)⟩
      | not e =>
        obtain ⟨a, u, rfl, ht, he⟩ := hw.at_
        exact worth_plain hr gS gP ht sO k4 (v4 d C) fun H' l s1 hl => ⟨l, u, e, nd, cd, fn, c, rfl, hl, ⟨Nat.le_of_succ_le_succ hw.dep, hw.ok, he.mv (Tups.of s1), s1 _ _ hw.nm, s1 _ _ hw.cl, hw.len⟩, fun H2 s2 => q H2 (s1.trans s2)⟩
      | bin o e1 e2 =>
        obtain ⟨a, u1, u2, rfl, ht, h1, h2⟩ := hw.at_
        obtain ⟨fo, ko, vo⟩ := sg o
        have hd : max e1.depth e2.depth ≤ d := Nat.le_of_succ_le_succ hw.dep
        exact worth_bin (hr.mono (by omega)) C gS ht ko vo ⟨by omega, hw.ok.1, h1, hw.nm, hw.cl, hw.len⟩ ⟨by omega, hw.ok.2, h2, hw.nm, hw.cl, hw.len⟩ q
end
end Rwl

/-! W5: the bytes of a row. -/
namespace Rwl
open PySem PySem.Spec PyProof.Rows L2

theorem ifT {c : Bool} {A B : Prop} (e : c = true) (h : A) : if c = true then A else B := by
  rw [if_pos e]
  exact h
theorem ifF {c : Bool} {A B : Prop} (e : c = false) (h : B) : if c = true then A else B := by
  rw [if_neg (by rw [e]; decide)]
  exact h
theorem inV_strs (x : Str) : ∀ ws : List Str, inV (.str x) (ws.map V.str) = decide (x ∈ ws)
  | [] => rfl
  | y :: r => by
    have ih := inV_strs x r
    show (eqV (.str y) (.str x) || inV (.str x) (r.map V.str)) = decide (x ∈ y :: r)
    rw [ih]
    by_cases e : y = x
    · subst e
      have e1 : eqV (.str y) (.str y) = true := by show (y == y) = true; simp
      rw [e1, decide_eq_true (List.mem_cons_self)]
      rfl
    · have e1 : eqV (.str y) (.str x) = false := by show (y == x) = false; simp [e]
      rw [e1, Bool.false_or]
      apply decide_eq_decide.mpr
      exact ⟨fun h => List.mem_cons_of_mem _ h, fun h => (List.mem_cons.mp h).resolve_left fun q => e q.symm⟩
theorem flat_strs : ∀ ws : List Str, (ws.map V.str).all flatV = true
  | [] => rfl
  | _ :: r => flat_strs r
/-- in [words]: a test of a word that is known -/
theorem test_in {K : PySem.W.Frag} {σ : L2.St} {H : Hp} {Q : Bool → Hp → Prop} {tl : TA} (ws : List Str) (x : Str) (hl : ∀ (R : List V → Hp → Prop), R (ws.map V.str) H → tl σ H R) (hz : ws.length ≤ sizeLine)
    (q : ∀ H1, Same H H1 → Q (decide (x ∈ ws)) H1) : tLst tl σ H fun y H2 => rIn K false (.str x) y H2 fun z H3 => ∃ k, z = .bl k ∧ Q k H3 := by
  refine hl _ ⟨by rw [List.length_map]; exact hz, fun p hp => ⟨p, _, rfl, .inl (SqL.of upd_same), rfl, flat_strs ws, ?_⟩⟩
  refine ⟨_, rfl, ?_⟩
  have e : (if false = true then !inV (V.str x) (ws.map V.str) else inV (V.str x) (ws.map V.str)) = decide (x ∈ ws) := inV_strs x ws
  rw [e]
  exact q _ (new_same hp)
theorem test_out {K : PySem.W.Frag} {σ : L2.St} {H : Hp} {Q : Bool → Hp → Prop} {tl : TA} (ws : List Str) (x : Str) (hl : ∀ (R : List V → Hp → Prop), R (ws.map V.str) H → tl σ H R) (hz : ws.length ≤ sizeLine)
    (q : ∀ H1, Same H H1 → Q (!decide (x ∈ ws)) H1) : tLst tl σ H fun y H2 => rIn K true (.str x) y H2 fun z H3 => ∃ k, z = .bl k ∧ Q k H3 := by
  refine hl _ ⟨by rw [List.length_map]; exact hz, fun p hp => ⟨p, _, rfl, .inl (SqL.of upd_same), rfl, flat_strs ws, ?_⟩⟩
  refine ⟨_, rfl, ?_⟩
  have e : (if true = true then !inV (V.str x) (ws.map V.str) else inV (V.str x) (ws.map V.str)) = !decide (x ∈ ws) := congrArg (!·) (inV_strs x ws)
  rw [e]
  exact q _ (new_same hp)
theorem eqV_str (x y : Str) : eqV (.str x) (.str y) = (x == y) := rfl
/-- [words].index(x) -/
theorem word_ix {K : PySem.W.Frag} {σ : L2.St} {H : Hp} {Q : VK} {tl tx : TA} (ws : List Str) (k : Nat) (x : Str) (hn : ws.Nodup) (hk : ws[k]? = some x) (hl : ∀ (R : List V → Hp → Prop), R (ws.map V.str) H → tl σ H R) (hz : ws.length ≤ sizeLine)
    (hx : ∀ H1 (R : List V → Hp → Prop), R [.str x] H1 → tx σ H1 R) (q : ∀ H1, Same H H1 → Q (.int (k : Nat)) H1) : tBM K "list" (rIndex K) (tLst tl) tx σ H Q := by
  refine hl _ ⟨by rw [List.length_map]; exact hz, fun p hp => ⟨.inl ⟨rfl, _, SqL.of upd_same⟩, hx _ _ ⟨p, _, .str x, k, .str x, rfl, rfl, SqL.of upd_same, rfl, flat_strs ws, ?_, ?_, ?_, ?_⟩⟩⟩
  · rw [List.getElem?_map, hk]
    rfl
  · rw [eqV_str]
    simp
  · intro m z hm hz'
    rw [List.getElem?_map] at hz'
    cases e : ws[m]? with
    | none =>
      rw [e] at hz'
      cases hz'
    | some y =>
      rw [e] at hz'
      cases hz'
      rw [eqV_str]
      by_cases h : y = x
      · rw [h] at e
        exact absurd (nd_ix hn e hk) (Nat.ne_of_lt hm)
      · simp [h]
  · exact q _ (new_same hp)
/-- l.index(x), l a list of words -/
theorem ix_facts {ws : List Str} {k : Nat} {x : Str} (hn : ws.Nodup) (hk : ws[k]? = some x) :
    (ws.map V.str)[k]? = some (.str x) ∧ eqV (.str x) (.str x) = true ∧ ∀ (m : Nat) (z : V), m < k → (ws.map V.str)[m]? = some z → eqV z (.str x) = false := by
  refine ⟨?_, ?_, ?_⟩
  · rw [List.getElem?_map, hk]
    rfl
  · rw [eqV_str]
    simp
  · intro m z hm hz'
    rw [List.getElem?_map] at hz'
    cases e : ws[m]? with
    | none =>
      rw [e] at hz'
      cases hz'
    | some y =>
      rw [e] at hz'
      cases hz'
      rw [eqV_str]
      by_cases h : y = x
      · rw [h] at e
        exact absurd (nd_ix hn e hk) (Nat.ne_of_lt hm)
      · simp [h]

/-! ### bytes -/
def someW : List Str := ["set", "copy", "add", "sub", "and", "or", "xor", "test", "testn", "load", "store", "loadn", "storen"]
def numdK : Nat → Nat
  | 0 => 0
  | 1 => 8
  | 2 => 11
  | _ => 12
def pairK : Nat → Nat
  | 7 => 9
  | 8 => 10
  | k => k + 1
def Row.bytes : Row → List Int
  | .alone k => [(k : Int)]
  | .jump k n => [224 + (k : Int), n]
  | .single k r => [240 + 4 * (r : Int) + (k : Int)]
  | .numd k r n => [16 + 16 * (numdK k : Int) + 4 * (r : Int), n]
  | .pair k r s => [16 + 16 * (pairK k : Int) + 4 * (r : Int) + (s : Int)]
theorem occ_box : ∀ r, r < 4 → ∃ rest, Builtin.Str.occurrences "abcd" (bx r) 0 ("abcd" : Str).length 1 = r :: rest := by
  intro r h
  have hc : r = 0 ∨ r = 1 ∨ r = 2 ∨ r = 3 := by omega
  rcases hc with rfl | rfl | rfl | rfl
  · exact ⟨[], by decide +kernel⟩
  · exact ⟨[], by decide +kernel⟩
  · exact ⟨[], by decide +kernel⟩
  · exact ⟨[], by decide +kernel⟩
def spBytes (K : PySem.W.Frag) : Sp := fun vs H Q _ => ∃ v r, vs = [v] ∧ RowAt K H v r ∧ r.ok ∧ ∀ H' p, Same H H' → H p = none → H' p = some (.lst (r.bytes.map V.int)) → Q (.ref p) H'
abbrev bN : List Str := ["_law_row", "_law_word", "_law_box", "_law_some", "_law_first"]
theorem alone_nd : aloneW.Nodup := by decide +kernel
theorem jump_nd : jumpW.Nodup := by decide +kernel
theorem single_nd : singleW.Nodup := by decide +kernel
theorem some_nd : someW.Nodup := by decide +kernel
theorem alone_ix : ∀ k, k < 3 → aloneW[k]? = some (aloneW.getD k "") ∧ aloneW.getD k "" ∈ aloneW := by decide +kernel
theorem jump_ix : ∀ k, k < 6 → jumpW[k]? = some (jumpW.getD k "") ∧ jumpW.getD k "" ∈ jumpW ∧ ¬ jumpW.getD k "" ∈ aloneW := by decide +kernel
theorem single_ix : ∀ k, k < 4 → singleW[k]? = some (singleW.getD k "") ∧ singleW.getD k "" ∈ singleW ∧ ¬ singleW.getD k "" ∈ aloneW ∧ ¬ singleW.getD k "" ∈ jumpW := by decide +kernel
theorem numd_ix : ∀ k, k < 4 → someW[numdK k]? = some (numdW.getD k "") ∧ numdW.getD k "" ∈ numdW ∧ ¬ numdW.getD k "" ∈ aloneW ∧ ¬ numdW.getD k "" ∈ jumpW ∧ ¬ numdW.getD k "" ∈ singleW := by decide +kernel
theorem pair_ix : ∀ k, k < 9 → someW[pairK k]? = some (pairW.getD k "") ∧ ¬ pairW.getD k "" ∈ numdW ∧ ¬ pairW.getD k "" ∈ aloneW ∧ ¬ pairW.getD k "" ∈ jumpW ∧ ¬ pairW.getD k "" ∈ singleW := by decide +kernel
theorem line13 : 13 ≤ sizeLine := by decide
section
variable {P : Program} {w : World} {K : PySem.W.Frag} {mg : Str → Option Value} {base : Heap} {f : Addr} {fd : FuncData}
theorem ok_bytes (F : Fun K "_law_bytes" "_law_bytes" (top 51) f fd) : FnOk P w K mg base CX0 1 f fd ["_law_row"] (spBytes K) := by
  have sc : FnScope bN ["_law_row"] (defScope (top 51)) := sc_by (by decide +kernel)
  refine F.ok sc (fun vs H Q E h => ?_) fun cdv A outer s H vs Q E hr h => ?_
  · obtain ⟨v, r, rfl, _⟩ := h
    rfl
  · obtain ⟨v, r, rfl, ⟨t, rfl, ht⟩, ok, q⟩ := h
    refine ⟨_, pss_cons (ps_set (i := 1) sc.nd rfl (.inl rfl) (pe_ix ix_tup (pv 0) pe_int (fun _ _ => rfl)))
      (pss_cons (ps_if (pt_cmpR op_in_seq (pv 1) (pe_lst (pa_cons pe_str (pa_cons pe_str (pa_cons pe_str pa_nil)))) (by rfl))
        (pss_one (ps_ret (pe_lst (pa_cons (pe_bm PySem.F.plainAttrs_list PySem.F.slot_list_index PySem.F.type_list_index mt_index (pe_lst (pa_cons pe_str (pa_cons pe_str (pa_cons pe_str pa_nil)))) (pa_cons (pv 1) pa_nil)) pa_nil)))) pss_nil)
      (pss_cons (ps_if (pt_cmpR op_in_seq (pv 1) (pe_lst (pa_cons pe_str (pa_cons pe_str (pa_cons pe_str (pa_cons pe_str (pa_cons pe_str (pa_cons pe_str pa_nil))))))) (by rfl))
        (pss_one (ps_ret (pe_lst (pa_cons (pe_op op_add pe_int (pe_bm PySem.F.plainAttrs_list PySem.F.slot_list_index PySem.F.type_list_index mt_index (pe_lst (pa_cons pe_str (pa_cons pe_str (pa_cons pe_str (pa_cons pe_str (pa_cons pe_str (pa_cons pe_str pa_nil))))))) (pa_cons (pv 1) pa_nil)))
          (pa_cons (pe_ix ix_tup (pv 0) pe_int (fun _ _ => rfl)) pa_nil))))) pss_nil)
      (pss_cons (ps_set (i := 2) sc.nd rfl (.inl rfl) (pe_op op_mul pe_int (pe_bm PySem.F.plainAttrs_str PySem.F.slot_str_index PySem.F.type_str_index mt_sindex pe_str (pa_cons (pe_ix ix_tup (pv 0) pe_int (fun _ _ => rfl)) pa_nil))))
      (pss_cons (ps_if (pt_cmpR op_in_seq (pv 1) (pe_lst (pa_cons pe_str (pa_cons pe_str (pa_cons pe_str (pa_cons pe_str pa_nil))))) (by rfl))
        (pss_one (ps_ret (pe_lst (pa_cons (pe_op op_add (pe_op op_add pe_int (pv 2)) (pe_bm PySem.F.plainAttrs_list PySem.F.slot_list_index PySem.F.type_list_index mt_index (pe_lst (pa_cons pe_str (pa_cons pe_str (pa_cons pe_str (pa_cons pe_str pa_nil))))) (pa_cons (pv 1) pa_nil))) pa_nil)))) pss_nil)
      (pss_cons (ps_set (i := 3) sc.nd rfl (.inl rfl) (pe_lst (pa_cons pe_str (pa_cons pe_str (pa_cons pe_str (pa_cons pe_str (pa_cons pe_str (pa_cons pe_str (pa_cons pe_str (pa_cons pe_str (pa_cons pe_str (pa_cons pe_str (pa_cons pe_str (pa_cons pe_str (pa_cons pe_str pa_nil)))))))))))))))
      (pss_cons (ps_set (i := 4) sc.nd rfl (.inl rfl) (pe_op op_add (pe_op op_add pe_int (pe_op op_mul pe_int (pe_bm PySem.F.plainAttrs_list PySem.F.slot_list_index PySem.F.type_list_index mt_index (pv 3) (pa_cons (pv 1) pa_nil)))) (pv 2)))
      (pss_cons (ps_if (pt_cmpR op_in_seq (pv 1) (pe_lst (pa_cons pe_str (pa_cons pe_str (pa_cons pe_str (pa_cons pe_str pa_nil))))) (by rfl))
        (pss_one (ps_ret (pe_lst (pa_cons (pv 4) (pa_cons (pe_ix ix_tup (pv 0) pe_int (fun _ _ => rfl)) pa_nil))))) pss_nil)
      (pss_one (ps_ret (pe_lst (pa_cons (pe_op op_add (pv 4) (pe_bm PySem.F.plainAttrs_str PySem.F.slot_str_index PySem.F.type_str_index mt_sindex pe_str (pa_cons (pe_ix ix_tup (pv 0) pe_int (fun _ _ => rfl)) pa_nil))) pa_nil))))))))))), ?_⟩
    cases r with
    | alone k =>
      obtain ⟨i1, i2⟩ := alone_ix k ok
      refine ⟨_, rfl, t, _, 0, _, rfl, rfl, ht.sq, rfl, ?_⟩
      refine ⟨_, rfl, ?_⟩
      refine test_in aloneW (aloneW.getD k "") (fun R h => h) three_line fun H1 s1 => ?_
      refine ifT (decide_eq_true i2) ?_
      refine word_ix aloneW k (aloneW.getD k "") alone_nd i1 (fun R h => h) three_line (fun H1 R h => ⟨_, rfl, h⟩) fun H2 s2 => ?_
      exact ⟨one_line, fun p hp => q _ p (s1.trans (s2.trans (new_same hp))) ((s1.trans s2).free hp) upd_same⟩
    | jump k n =>
      obtain ⟨i1, i2, i3⟩ := jump_ix k ok.1
      refine ⟨_, rfl, t, _, 0, _, rfl, rfl, ht.sq, rfl, ?_⟩
      refine ⟨_, rfl, ?_⟩
      refine test_in aloneW (jumpW.getD k "") (fun R h => h) three_line fun H1 s1 => ?_
      refine ifF (decide_eq_false i3) ?_
      refine ⟨_, rfl, ?_⟩
      refine test_in jumpW (jumpW.getD k "") (fun R h => h) (by decide) fun H2 s2 => ?_
      refine ifT (decide_eq_true i2) ?_
      refine word_ix jumpW k (jumpW.getD k "") jump_nd i1 (fun R h => h) (by decide) (fun H1 R h => ⟨_, rfl, h⟩) fun H3 s3 => ?_
      have s13 := s1.trans (s2.trans s3)
      refine ⟨_, _, rfl, rfl, _, rfl, t, _, 1, _, rfl, rfl, (ht.mv (Tups.of s13)).sq, rfl, ?_⟩
      exact ⟨two_line, fun p hp => q _ p (s13.trans (new_same hp)) (s13.free hp) upd_same⟩
    | single k r =>
      obtain ⟨i1, i2, i3, i4⟩ := single_ix k ok.1
      obtain ⟨rs, ho⟩ := occ_box r ok.2
      refine ⟨_, rfl, t, _, 0, _, rfl, rfl, ht.sq, rfl, ?_⟩
      refine ⟨_, rfl, ?_⟩
      refine test_in aloneW (singleW.getD k "") (fun R h => h) three_line fun H1 s1 => ?_
      refine ifF (decide_eq_false i3) ?_
      refine ⟨_, rfl, ?_⟩
      refine test_in jumpW (singleW.getD k "") (fun R h => h) (by decide) fun H2 s2 => ?_
      refine ifF (decide_eq_false i4) ?_
      have s12 := s1.trans s2
      refine ⟨rfl, _, rfl, t, _, 1, _, rfl, rfl, (ht.mv (Tups.of s12)).sq, rfl, _, _, _, _, rfl, rfl, ho, _, _, rfl, rfl, .inl ⟨by decide, by decide⟩, ?_⟩
      refine ⟨_, rfl, ?_⟩
      refine test_in singleW (singleW.getD k "") (fun R h => h) (by decide) fun H3 s3 => ?_
      refine ifT (decide_eq_true i2) ?_
      refine ⟨_, rfl, _, _, rfl, rfl, ?_⟩
      refine word_ix singleW k (singleW.getD k "") single_nd i1 (fun R h => h) (by decide) (fun H1 R h => ⟨_, rfl, h⟩) fun H4 s4 => ?_
      have s14 := s12.trans (s3.trans s4)
      refine ⟨_, _, rfl, rfl, ?_⟩
      exact ⟨one_line, fun p hp => q _ p (s14.trans (new_same hp)) (s14.free hp) upd_same⟩
    | numd k r n =>
      obtain ⟨i1, i2, i3, i4, i5⟩ := numd_ix k ok.1
      obtain ⟨rs, ho⟩ := occ_box r ok.2.1
      refine ⟨_, rfl, t, _, 0, _, rfl, rfl, ht.sq, rfl, ?_⟩
      refine ⟨_, rfl, ?_⟩
      refine test_in aloneW (numdW.getD k "") (fun R h => h) three_line fun H1 s1 => ?_
      refine ifF (decide_eq_false i3) ?_
      refine ⟨_, rfl, ?_⟩
      refine test_in jumpW (numdW.getD k "") (fun R h => h) (by decide) fun H2 s2 => ?_
      refine ifF (decide_eq_false i4) ?_
      have s12 := s1.trans s2
      refine ⟨rfl, _, rfl, t, _, 1, _, rfl, rfl, (ht.mv (Tups.of s12)).sq, rfl, _, _, _, _, rfl, rfl, ho, _, _, rfl, rfl, .inl ⟨by decide, by decide⟩, ?_⟩
      refine ⟨_, rfl, ?_⟩
      refine test_in singleW (numdW.getD k "") (fun R h => h) (by decide) fun H3 s3 => ?_
      refine ifF (decide_eq_false i5) ?_
      refine ⟨line13, fun l hl => ?_⟩
      have fx := ix_facts some_nd i1
      refine ⟨_, rfl, .inl ⟨rfl, _, SqL.of (xs := someW.map V.str) upd_same⟩, _, rfl, l, someW.map V.str, _, numdK k, _, rfl, rfl, SqL.of upd_same, rfl, flat_strs someW, fx.1, fx.2.1, fx.2.2, ?_⟩
      refine ⟨_, _, rfl, rfl, .inl ⟨by decide, by decide⟩, _, _, rfl, rfl, _, rfl, _, _, rfl, rfl, ?_⟩
      refine ⟨_, rfl, ?_⟩
      refine test_in numdW (numdW.getD k "") (fun R h => h) (by decide) fun H4 s4 => ?_
      refine ifT (decide_eq_true i2) ?_
      have s14 := s12.trans (s3.trans ((new_same hl).trans s4))
      refine ⟨_, rfl, _, rfl, t, _, 2, _, rfl, rfl, (ht.mv (Tups.of s14)).sq, rfl, ?_⟩
      exact ⟨two_line, fun p hp => q _ p (s14.trans (new_same hp)) (s14.free hp) upd_same⟩
    | pair k r s' =>
      obtain ⟨i1, i2, i3, i4, i5⟩ := pair_ix k ok.1
      obtain ⟨rs, ho⟩ := occ_box r ok.2.1
      obtain ⟨rs2, ho2⟩ := occ_box s' ok.2.2
      refine ⟨_, rfl, t, _, 0, _, rfl, rfl, ht.sq, rfl, ?_⟩
      refine ⟨_, rfl, ?_⟩
      refine test_in aloneW (pairW.getD k "") (fun R h => h) three_line fun H1 s1 => ?_
      refine ifF (decide_eq_false i3) ?_
      refine ⟨_, rfl, ?_⟩
      refine test_in jumpW (pairW.getD k "") (fun R h => h) (by decide) fun H2 s2 => ?_
      refine ifF (decide_eq_false i4) ?_
      have s12 := s1.trans s2
      refine ⟨rfl, _, rfl, t, _, 1, _, rfl, rfl, (ht.mv (Tups.of s12)).sq, rfl, _, _, _, _, rfl, rfl, ho, _, _, rfl, rfl, .inl ⟨by decide, by decide⟩, ?_⟩
      refine ⟨_, rfl, ?_⟩
      refine test_in singleW (pairW.getD k "") (fun R h => h) (by decide) fun H3 s3 => ?_
      refine ifF (decide_eq_false i5) ?_
      refine ⟨line13, fun l hl => ?_⟩
      have fx := ix_facts some_nd i1
      refine ⟨_, rfl, .inl ⟨rfl, _, SqL.of (xs := someW.map V.str) upd_same⟩, _, rfl, l, someW.map V.str, _, pairK k, _, rfl, rfl, SqL.of upd_same, rfl, flat_strs someW, fx.1, fx.2.1, fx.2.2, ?_⟩
      refine ⟨_, _, rfl, rfl, .inl ⟨by decide, by decide⟩, _, _, rfl, rfl, _, rfl, _, _, rfl, rfl, ?_⟩
      refine ⟨_, rfl, ?_⟩
      refine test_in numdW (pairW.getD k "") (fun R h => h) (by decide) fun H4 s4 => ?_
      refine ifF (decide_eq_false i2) ?_
      have s14 := s12.trans (s3.trans ((new_same hl).trans s4))
      refine ⟨_, rfl, rfl, _, rfl, t, _, 2, _, rfl, rfl, (ht.mv (Tups.of s14)).sq, rfl, _, _, _, _, rfl, rfl, ho2, _, _, rfl, rfl, ?_⟩
      exact ⟨one_line, fun p hp => q _ p (s14.trans (new_same hp)) (s14.free hp) upd_same⟩
end
end Rwl

/-! W6: a row read off its bytes. -/
namespace Rwl
open PySem PySem.Spec PyProof.Rows L2

def strsV (ws : List Str) : List V := ws.map V.str
structure RowTabs (w : World) (K : PySem.W.Frag) (mg : Str → Option Value) : Prop where
  len : mg "len" = none
  boxes : ∃ t, mg "BOXES" = some (.str "abcd" t)
  alone : ∃ a, mg "ALONE" = some (.ref a) ∧ KTup K a (strsV aloneW)
  targets : ∃ a, mg "TARGETS" = some (.ref a) ∧ KTup K a (strsV jumpW)
  single : ∃ a, mg "SINGLE" = some (.ref a) ∧ KTup K a (strsV singleW)
  jumps : ∃ t, mg "JUMPS" = some (.int 14 t)
  singles : ∃ t, mg "SINGLES" = some (.int 15 t)
  pairs : ∃ d, mg "WORDS_OF_PAIRS" = some (.ref d) ∧ (∀ k, k < 9 → KMap K w d (Sum.inl ((pairK k : Int) + 1)) (some (.str (pairW.getD k "")))) ∧ (∀ k, k < 4 → KMap K w d (Sum.inl ((numdK k : Int) + 1)) none) ∧ KMap K w d (Sum.inl 14) none
  numbered : ∃ d, mg "WORDS_OF_NUMBERED" = some (.ref d) ∧ ∀ k, k < 4 → KMap K w d (Sum.inl ((numdK k : Int) + 1)) (some (.str (numdW.getD k "")))
/-- what the program reads of a first byte -/
structure Bits (b : Int) (k : Int) (r s : Nat) : Prop where
  kind : b / 2 ^ (4 : Int).toNat = k
  box : Builtin.bitAnd (b / 2 ^ (2 : Int).toNat) 3 = (r : Int)
  last : Builtin.bitAnd b 3 = (s : Int)
instance (b k : Int) (r s : Nat) : Decidable (Bits b k r s) :=
  decidable_of_iff (b / 2 ^ (4 : Int).toNat = k ∧ Builtin.bitAnd (b / 2 ^ (2 : Int).toNat) 3 = (r : Int) ∧ Builtin.bitAnd b 3 = (s : Int)) ⟨fun h => ⟨h.1, h.2.1, h.2.2⟩, fun h => ⟨h.kind, h.box, h.last⟩⟩
theorem pair_bits : ∀ k : Nat, k < 9 → ∀ r : Nat, r < 4 → ∀ s : Nat, s < 4 → Bits (16 + 16 * (pairK k : Int) + 4 * (r : Int) + (s : Int)) ((pairK k : Int) + 1) r s := by decide +kernel
theorem single_bits : ∀ k : Nat, k < 4 → ∀ r : Nat, r < 4 → Bits (240 + 4 * (r : Int) + (k : Int)) 15 r k := by decide +kernel
theorem numd_bits : ∀ k : Nat, k < 4 → ∀ r : Nat, r < 4 → Bits (16 + 16 * (numdK k : Int) + 4 * (r : Int)) ((numdK k : Int) + 1) r 0 ∧ Builtin.bitAnd (Builtin.bitAnd (16 + 16 * (numdK k : Int) + 4 * (r : Int)) 15) 3 = 0 := by decide +kernel
theorem jump_bits : ∀ k : Nat, k < 6 → Bits (224 + (k : Int)) 14 (k / 4) (k % 4) ∧ Builtin.bitAnd (224 + (k : Int)) 15 = (k : Int) := by decide +kernel
theorem alone_bits : ∀ k : Nat, k < 3 → Bits (k : Int) 0 0 k := by decide +kernel
theorem box_at : ∀ r : Nat, r < 4 → atI ("abcd" : Str).cps.toList (r : Int) = some (97 + r) := by decide +kernel
theorem abcd_len : ("abcd" : Str).length ≤ sizeLine := by decide +kernel
theorem numd_15 : ∀ k : Nat, k < 4 → ¬ ((numdK k : Int) + 1 = 15) := by decide
theorem numd_14 : ∀ k : Nat, k < 4 → ¬ ((numdK k : Int) + 1 = 14) := by decide
theorem pair_15 : ∀ k : Nat, k < 9 → ¬ ((pairK k : Int) + 1 = 15) := by decide
theorem strs_at {ws : List Str} {k : Nat} {x : Str} (h : ws[k]? = some x) : atI (strsV ws) (k : Int) = some (.str x) := by
  refine atI_nat ?_
  show (ws.map V.str)[k]? = _
  rw [List.getElem?_map, h]
  rfl
def Row.first (r : Row) : Int := r.bytes.headD 0
def Row.short : Row → Prop
  | .jump _ _ => False
  | .numd _ _ _ => False
  | _ => True
def spShort (K : PySem.W.Frag) : Sp := fun vs H Q _ => ∃ r : Row, vs = [.int r.first] ∧ r.ok ∧ (r.short → ∀ H' v, Same H H' → RowAt K H' v r → Q v H') ∧ (¬ r.short → ∀ H', Same H H' → Q .non H')
def spLong (K : PySem.W.Frag) : Sp := fun vs H Q _ => ∃ (r : Row) (n : Int), vs = [.int r.first, .int n] ∧ r.ok ∧ ¬ r.short ∧ r.bytes = [r.first, n] ∧ ∀ H' v, Same H H' → RowAt K H' v r → Q v H'
def spRowAt (K : PySem.W.Frag) : Sp := fun vs H Q _ => ∃ cd r, vs = [.ref cd, .int 0] ∧ H cd = some (.lst (r.bytes.map V.int)) ∧ r.ok ∧ ∀ H' p v, Same H H' → TupAt K H' p [v, .int r.bytes.length] → RowAt K H' v r → Q (.ref p) H'
theorem dec_int_ne {a b : Int} (h : a ≠ b) : decide (V.int a = V.int b) = false := decide_eq_false fun e => h (V.int.inj e)
theorem dec_int_eq {a b : Int} (h : a = b) : decide (V.int a = V.int b) = true := decide_eq_true (by rw [h])
section
variable {P : Program} {w : World} {K : PySem.W.Frag} {mg : Str → Option Value} {base : Heap} {f : Addr} {fd : FuncData}
abbrev shN : List Str := ["first", "kind", "box", "last"]
theorem ok_short (F : Fun K "short_row" "short_row" (top 9) f fd) (T : RowTabs w K mg) : FnOk P w K mg base CX0 1 f fd ["first"] (spShort K) := by
  have sc : FnScope shN ["first"] (defScope (top 9)) := sc_by (by decide +kernel)
  refine F.ok sc (fun vs H Q E h => ?_) fun cdv A outer s H vs Q E hr h => ?_
  · obtain ⟨r, rfl, _⟩ := h
    rfl
  · obtain ⟨r, rfl, ok, q1, q2⟩ := h
    obtain ⟨tB, gB⟩ := T.boxes
    obtain ⟨aA, gA, kA⟩ := T.alone
    obtain ⟨tS, gS⟩ := T.singles
    obtain ⟨aS, gL, kL⟩ := T.single
    obtain ⟨dP, gP, p1, p2, p3⟩ := T.pairs
    refine ⟨_, pss_cons (ps_par3 (i := 1) (j := 2) (l := 3) rfl sc.nd rfl rfl rfl (by decide) (by decide) (by decide) rfl rfl rfl
        (pa_cons (pe_op op_shr (pv 0) pe_int) (pa_cons (pe_ix ix_str (pe_glob (v := .str "abcd") rfl gB ⟨_, rfl⟩) (pe_op op_and (pe_op op_shr (pv 0) pe_int) pe_int) (fun _ _ => rfl)) (pa_cons (pe_op op_and (pv 0) pe_int) pa_nil))) (by rfl))
      (pss_cons (ps_if (pt_cmpR op_lt (pv 0) (pe_callB call_len_seq (by rfl) T.len PySem.boot_len (pa_cons (pe_glob (v := .ref aA) rfl gA rfl) pa_nil)) (nomark _))
        (pss_one (ps_ret (pe_tup (pa_cons (pe_ix ix_tup (pe_glob (v := .ref aA) rfl gA rfl) (pv 0) (fun _ _ => rfl)) pa_nil)))) pss_nil)
      (pss_cons (ps_if (pt_cmpR op_eq (pv 1) (pe_glob (v := .int 15) rfl gS ⟨_, rfl⟩) (nomark _))
        (pss_one (ps_ret (pe_tup (pa_cons (pe_ix ix_tup (pe_glob (v := .ref aS) rfl gL rfl) (pv 3) (fun _ _ => rfl)) (pa_cons (pv 2) pa_nil))))) pss_nil)
      (pss_cons (ps_if (pt_cmpR op_kin (pv 1) (pe_glob (v := .ref dP) rfl gP rfl) (by rfl))
        (pss_one (ps_ret (pe_tup (pa_cons (pe_ix ix_kmap (pe_glob (v := .ref dP) rfl gP rfl) (pv 1) (fun _ _ => rfl)) (pa_cons (pv 2) (pa_cons (pe_ix ix_str (pe_glob (v := .str "abcd") rfl gB ⟨_, rfl⟩) (pv 3) (fun _ _ => rfl)) pa_nil)))))) pss_nil)
      (pss_one (ps_ret pe_non))))), ?_⟩
    cases r with
    | alone k =>
      have bt := alone_bits k ok
      refine ⟨_, rfl, _, _, rfl, rfl, (by show (0 : Int) ≤ 4; decide), _, rfl, _, _, rfl, rfl, (by show (0 : Int) ≤ 2; decide), _, _, rfl, rfl, _, _, _, rfl, congrArg V.int bt.box, abcd_len, box_at 0 (by decide), _, rfl, _, _, rfl, rfl, _, _, _, rfl, ?_⟩
      refine ⟨_, rfl, aA, _, rfl, .inr (kA.at _), _, _, rfl, rfl, _, rfl, ?_⟩
      refine ifT (decide_eq_true (by show (k : Int) < 3; have := ok; unfold Row.ok at this; omega)) ?_
      refine ⟨_, rfl, aA, _, (k : Int), _, rfl, rfl, kA.at _, strs_at (alone_ix k ok).1, one_line, fun p hp => ?_⟩
      exact q1 trivial _ _ (new_same hp) ⟨p, rfl, .inl upd_same⟩
    | jump k n =>
      have bt := (jump_bits k ok.1).1
      have hk : k < 6 := ok.1
      refine ⟨_, rfl, _, _, rfl, rfl, (by show (0 : Int) ≤ 4; decide), _, rfl, _, _, rfl, rfl, (by show (0 : Int) ≤ 2; decide), _, _, rfl, rfl, _, _, _, rfl, congrArg V.int bt.box, abcd_len, box_at (k / 4) (by omega), _, rfl, _, _, rfl, rfl, _, _, _, rfl, ?_⟩
      refine ⟨_, rfl, aA, _, rfl, .inr (kA.at _), _, _, rfl, rfl, _, rfl, ?_⟩
      refine ifF (decide_eq_false (by show ¬ (224 + (k : Int) < 3); omega)) ?_
      refine ⟨_, rfl, rfl, _, rfl, ?_⟩
      refine ifF (dec_int_ne (by show ¬ ((224 + (k : Int)) / 2 ^ (4 : Int).toNat = 15); rw [bt.kind]; decide)) ?_
      refine ⟨_, rfl, Sum.inl 14, dP, none, congrArg V.int bt.kind, rfl, p3, _, rfl, iteF ?_⟩
      exact q2 (fun h => h) _ (Same.refl H)
    | single k r =>
      have hk : k < 4 := ok.1
      have hr4 : r < 4 := ok.2
      have bt := single_bits k hk r hr4
      refine ⟨_, rfl, _, _, rfl, rfl, (by show (0 : Int) ≤ 4; decide), _, rfl, _, _, rfl, rfl, (by show (0 : Int) ≤ 2; decide), _, _, rfl, rfl, _, _, _, rfl, congrArg V.int bt.box, abcd_len, box_at r hr4, _, rfl, _, _, rfl, rfl, _, _, _, rfl, ?_⟩
      refine ⟨_, rfl, aA, _, rfl, .inr (kA.at _), _, _, rfl, rfl, _, rfl, ?_⟩
      refine ifF (decide_eq_false (by show ¬ (240 + 4 * (r : Int) + (k : Int) < 3); omega)) ?_
      refine ⟨_, rfl, rfl, _, rfl, ?_⟩
      refine ifT (dec_int_eq (by show (240 + 4 * (r : Int) + (k : Int)) / 2 ^ (4 : Int).toNat = 15; exact bt.kind)) ?_
      refine ⟨_, rfl, aS, _, (k : Int), _, rfl, congrArg V.int bt.last, kL.at _, strs_at (single_ix k hk).1, _, rfl, two_line, fun p hp => ?_⟩
      exact q1 trivial _ _ (new_same hp) ⟨p, rfl, .inl upd_same⟩
    | numd k r n =>
      have hk : k < 4 := ok.1
      have hr4 : r < 4 := ok.2.1
      have bt := (numd_bits k hk r hr4).1
      refine ⟨_, rfl, _, _, rfl, rfl, (by show (0 : Int) ≤ 4; decide), _, rfl, _, _, rfl, rfl, (by show (0 : Int) ≤ 2; decide), _, _, rfl, rfl, _, _, _, rfl, congrArg V.int bt.box, abcd_len, box_at r hr4, _, rfl, _, _, rfl, rfl, _, _, _, rfl, ?_⟩
      refine ⟨_, rfl, aA, _, rfl, .inr (kA.at _), _, _, rfl, rfl, _, rfl, ?_⟩
      refine ifF (decide_eq_false (by show ¬ (16 + 16 * (numdK k : Int) + 4 * (r : Int) < 3); omega)) ?_
      refine ⟨_, rfl, rfl, _, rfl, ?_⟩
      refine ifF (dec_int_ne (by show ¬ ((16 + 16 * (numdK k : Int) + 4 * (r : Int)) / 2 ^ (4 : Int).toNat = 15); rw [bt.kind]; exact numd_15 k hk)) ?_
      refine ⟨_, rfl, Sum.inl ((numdK k : Int) + 1), dP, none, congrArg V.int bt.kind, rfl, p2 k hk, _, rfl, iteF ?_⟩
      exact q2 (fun h => h) _ (Same.refl H)
    | pair k r s' =>
      have hk : k < 9 := ok.1
      have hr4 : r < 4 := ok.2.1
      have hs4 : s' < 4 := ok.2.2
      have bt := pair_bits k hk r hr4 s' hs4
      refine ⟨_, rfl, _, _, rfl, rfl, (by show (0 : Int) ≤ 4; decide), _, rfl, _, _, rfl, rfl, (by show (0 : Int) ≤ 2; decide), _, _, rfl, rfl, _, _, _, rfl, congrArg V.int bt.box, abcd_len, box_at r hr4, _, rfl, _, _, rfl, rfl, _, _, _, rfl, ?_⟩
      refine ⟨_, rfl, aA, _, rfl, .inr (kA.at _), _, _, rfl, rfl, _, rfl, ?_⟩
      refine ifF (decide_eq_false (by show ¬ (16 + 16 * (pairK k : Int) + 4 * (r : Int) + (s' : Int) < 3); omega)) ?_
      refine ⟨_, rfl, rfl, _, rfl, ?_⟩
      refine ifF (dec_int_ne (by show ¬ ((16 + 16 * (pairK k : Int) + 4 * (r : Int) + (s' : Int)) / 2 ^ (4 : Int).toNat = 15); rw [bt.kind]; exact pair_15 k hk)) ?_
      refine ⟨_, rfl, Sum.inl ((pairK k : Int) + 1), dP, _, congrArg V.int bt.kind, rfl, p1 k hk, _, rfl, iteT ?_⟩
      refine ⟨_, rfl, Sum.inl ((pairK k : Int) + 1), dP, _, rfl, congrArg V.int bt.kind, p1 k hk, _, rfl, _, rfl, _, _, _, rfl, congrArg V.int bt.last, abcd_len, box_at s' hs4, three_line, fun p hp => ?_⟩
      exact q1 trivial _ _ (new_same hp) ⟨p, rfl, .inl upd_same⟩
abbrev loN : List Str := ["first", "n", "kind", "box", "last"]
theorem ok_long (F : Fun K "long_row" "long_row" (top 10) f fd) (T : RowTabs w K mg) : FnOk P w K mg base CX0 1 f fd ["first", "n"] (spLong K) := by
  have sc : FnScope loN ["first", "n"] (defScope (top 10)) := sc_by (by decide +kernel)
  refine F.ok sc (fun vs H Q E h => ?_) fun cdv A outer s H vs Q E hr h => ?_
  · obtain ⟨r, n, rfl, _⟩ := h
    rfl
  · obtain ⟨r, n, rfl, ok, nsh, eb, q⟩ := h
    obtain ⟨tB, gB⟩ := T.boxes
    obtain ⟨tJ, gJ⟩ := T.jumps
    obtain ⟨aT, gT, kT⟩ := T.targets
    obtain ⟨dN, gN, p1⟩ := T.numbered
    refine ⟨_, pss_cons (ps_par3 (i := 2) (j := 3) (l := 4) rfl sc.nd rfl rfl rfl (by decide) (by decide) (by decide) rfl rfl rfl
        (pa_cons (pe_op op_shr (pv 0) pe_int) (pa_cons (pe_ix ix_str (pe_glob (v := .str "abcd") rfl gB ⟨_, rfl⟩) (pe_op op_and (pe_op op_shr (pv 0) pe_int) pe_int) (fun _ _ => rfl)) (pa_cons (pe_op op_and (pv 0) pe_int) pa_nil))) (by rfl))
      (pss_cons (ps_if (PW.pt (pw_and (pt_cmpR op_eq (pv 2) (pe_glob (v := .int 14) rfl gJ ⟨_, rfl⟩) (nomark _))
          (pw_and1 (pt_cmpR op_lt (pv 4) (pe_callB call_len_seq (by rfl) T.len PySem.boot_len (pa_cons (pe_glob (v := .ref aT) rfl gT rfl) pa_nil)) (nomark _)))))
        (pss_one (ps_ret (pe_tup (pa_cons (pe_ix ix_tup (pe_glob (v := .ref aT) rfl gT rfl) (pv 4) (fun _ _ => rfl)) (pa_cons (pv 1) pa_nil))))) pss_nil)
      (pss_cons (ps_if (PW.pt (pw_and (pt_cmpR op_kin (pv 2) (pe_glob (v := .ref dN) rfl gN rfl) (by rfl))
          (pw_and1 (pt_cmpR op_eq (pe_op op_and (pv 4) pe_int) pe_int (nomark _)))))
        (pss_one (ps_ret (pe_tup (pa_cons (pe_ix ix_kmap (pe_glob (v := .ref dN) rfl gN rfl) (pv 2) (fun _ _ => rfl)) (pa_cons (pv 3) (pa_cons (pv 1) pa_nil)))))) pss_nil)
      (pss_one (ps_ret pe_non)))), ?_⟩
    cases r with
    | alone k => exact absurd trivial nsh
    | single k r => exact absurd trivial nsh
    | pair k r s' => exact absurd trivial nsh
    | jump k n' =>
      obtain ⟨bt, bl⟩ := jump_bits k ok.1
      have hk : k < 6 := ok.1
      have en : n' = n := by
        have e := eb
        simp only [Row.bytes, List.cons.injEq, and_true] at e
        exact e.2
      subst en
      refine ⟨_, rfl, _, _, rfl, rfl, (by show (0 : Int) ≤ 4; decide), _, rfl, _, _, rfl, rfl, (by show (0 : Int) ≤ 2; decide), _, _, rfl, rfl, _, _, _, rfl, congrArg V.int bt.box, abcd_len, box_at (k / 4) (by omega), _, rfl, _, _, rfl, rfl, _, _, _, rfl, ?_⟩
      refine ⟨_, rfl, rfl, _, rfl, ?_⟩
      refine ifT (dec_int_eq (by show (224 + (k : Int)) / 2 ^ (4 : Int).toNat = 14; exact bt.kind)) ?_
      refine ⟨_, rfl, aT, _, rfl, .inr (kT.at _), _, _, rfl, rfl, _, rfl, ?_⟩
      refine ifT (decide_eq_true (by show Builtin.bitAnd (224 + (k : Int)) 15 < 6; rw [bl]; omega)) ?_
      refine ⟨_, rfl, aT, _, (k : Int), _, rfl, congrArg V.int bl, kT.at _, strs_at (jump_ix k hk).1, _, rfl, two_line, fun p hp => ?_⟩
      exact q _ _ (new_same hp) ⟨p, rfl, .inl upd_same⟩
    | numd k r n' =>
      have hk : k < 4 := ok.1
      have hr4 : r < 4 := ok.2.1
      obtain ⟨bt, bl⟩ := numd_bits k hk r hr4
      have en : n' = n := by
        have e := eb
        simp only [Row.bytes, List.cons.injEq, and_true] at e
        exact e.2
      subst en
      refine ⟨_, rfl, _, _, rfl, rfl, (by show (0 : Int) ≤ 4; decide), _, rfl, _, _, rfl, rfl, (by show (0 : Int) ≤ 2; decide), _, _, rfl, rfl, _, _, _, rfl, congrArg V.int bt.box, abcd_len, box_at r hr4, _, rfl, _, _, rfl, rfl, _, _, _, rfl, ?_⟩
      refine ⟨_, rfl, rfl, _, rfl, ?_⟩
      refine ifF (dec_int_ne (by show ¬ ((16 + 16 * (numdK k : Int) + 4 * (r : Int)) / 2 ^ (4 : Int).toNat = 14); rw [bt.kind]; exact numd_14 k hk)) ?_
      refine iteF ?_
      refine ⟨_, rfl, Sum.inl ((numdK k : Int) + 1), dN, _, congrArg V.int bt.kind, rfl, p1 k hk, _, rfl, iteT ?_⟩
      refine ⟨_, rfl, _, _, rfl, rfl, rfl, _, rfl, ?_⟩
      refine ifT (dec_int_eq (by exact bl)) ?_
      refine ⟨_, rfl, Sum.inl ((numdK k : Int) + 1), dN, _, rfl, congrArg V.int bt.kind, p1 k hk, _, rfl, _, rfl, three_line, fun p hp => ?_⟩
      exact q _ _ (new_same hp) ⟨p, rfl, .inl upd_same⟩
end
end Rwl

/-! W7: row_at, exit_of, lifted. -/
namespace Rwl
open PySem PySem.Spec PyProof.Rows L2

def WayAt (K : PySem.W.Frag) (H : Hp) (v : V) : Way → Prop
  | .go n => ∃ a, v = .ref a ∧ TupAt K H a [.str "go", .int n]
  | .ask e n b => ∃ a u, v = .ref a ∧ TupAt K H a [.str "if", u, .int n, .int b] ∧ EAt K H u e
theorem WayAt.mv {K : PySem.W.Frag} {H H' : Hp} {v : V} {y : Way} (t : Tups H H') (h : WayAt K H v y) : WayAt K H' v y := by
  cases y with
  | go n =>
    obtain ⟨a, e, h⟩ := h
    exact ⟨a, e, h.mv t⟩
  | ask e n b =>
    obtain ⟨a, u, e, h, h2⟩ := h
    exact ⟨a, u, e, h.mv t, h2.mv t⟩
def offW : List Str := "rest" :: (singleW ++ numdW ++ pairW)
structure ExitTabs (w : World) (K : PySem.W.Frag) (mg : Str → Option Value) : Prop where
  asked : ∃ d, mg "ASKED" = some (.ref d) ∧ (∀ k, 1 ≤ k → k < 5 → ∃ a, KMap K w d (Sum.inr (jumpW.getD k "")) (some (.ref a)) ∧ ∀ H, EAt K H (.ref a) (askE k)) ∧ ∀ x, x ∈ offW → KMap K w d (Sum.inr x) none
def spExit (K : PySem.W.Frag) : Sp := fun vs H Q _ => ∃ v r b, vs = [v, .int b] ∧ RowAt K H v r ∧ r.ok ∧ r.goes ∧ ∀ H' v', Same H H' → WayAt K H' v' (r.way b) → Q v' H'
theorem off_ne : ∀ x, x ∈ offW → ¬ x = "halt" ∧ ¬ x = "back" ∧ ¬ x = "go" ∧ ¬ x = "call" := by decide +kernel
theorem jump_ne : ∀ k : Nat, k < 5 → ¬ jumpW.getD k "" = "halt" ∧ ¬ jumpW.getD k "" = "back" ∧ ¬ jumpW.getD k "" = "call" ∧ (1 ≤ k → ¬ jumpW.getD k "" = "go") := by decide +kernel
theorem dec_str_ne {a b : Str} (h : ¬ a = b) : decide (V.str a = V.str b) = false := decide_eq_false fun e => h (V.str.inj e)
theorem dec_str_eq {a b : Str} (h : a = b) : decide (V.str a = V.str b) = true := decide_eq_true (by rw [h])
theorem off_single : ∀ k : Nat, k < 4 → singleW.getD k "" ∈ offW := by decide +kernel
theorem off_numd : ∀ k : Nat, k < 4 → numdW.getD k "" ∈ offW := by decide +kernel
theorem off_pair : ∀ k : Nat, k < 9 → pairW.getD k "" ∈ offW := by decide +kernel
theorem off_rest : aloneW.getD 2 "" ∈ offW := by decide +kernel
section
variable {P : Program} {w : World} {K : PySem.W.Frag} {mg : Str → Option Value} {base : Heap} {f : Addr} {fd : FuncData}
theorem ok_row_at (F : Fun K "row_at" "row_at" (top 11) f fd) (C1 : Cal P w K mg base 1 "short_row" ["first"] (spShort K)) (C2 : Cal P w K mg base 1 "long_row" ["first", "n"] (spLong K)) (gl : mg "len" = none) :
    FnOk P w K mg base CX0 2 f fd ["code", "address"] (spRowAt K) := by
  have sc : FnScope ["code", "address", "row"] ["code", "address"] (defScope (top 11)) := sc_by (by decide +kernel)
  refine F.ok sc (fun vs H Q E h => ?_) fun cdv A outer s H vs Q E hr h => ?_
  · obtain ⟨cd, r, rfl, _⟩ := h
    rfl
  · obtain ⟨cd, r, rfl, hc, ok, q⟩ := h
    refine ⟨_, pss_cons (ps_if (pt_not (pt_chain op_le op_lt pe_int (pv 1) (pe_callB call_len_seq (by rfl) gl PySem.boot_len (pa_cons (pv 0) pa_nil)))) (pss_one (ps_ret pe_non)) pss_nil)
      (pss_cons (ps_set (i := 2) sc.nd rfl (.inl rfl) (pe_n C1 hr rfl (pa_cons (pe_ix ix_list (pv 0) (pv 1) (fun _ _ => rfl)) pa_nil)))
      (pss_cons (ps_if (pt_cmpR op_notN (pv 2) pe_non (nomark _)) (pss_one (ps_ret (pe_tup (pa_cons (pv 2) (pa_cons pe_int pa_nil))))) pss_nil)
      (pss_cons (ps_set (i := 2) sc.nd rfl (.inl rfl) (pe_ifExp (pt_cmpR op_lt (pe_op op_add (pv 1) pe_int) (pe_callB call_len_seq (by rfl) gl PySem.boot_len (pa_cons (pv 0) pa_nil)) (nomark _))
        (pe_n C2 hr rfl (pa_cons (pe_ix ix_list (pv 0) (pv 1) (fun _ _ => rfl)) (pa_cons (pe_ix ix_list (pv 0) (pe_op op_add (pv 1) pe_int) (fun _ _ => rfl)) pa_nil))) pe_non))
      (pss_one (ps_ret (pe_ifExp (pt_cmpR op_notN (pv 2) pe_non (nomark _)) (pe_tup (pa_cons (pv 2) (pa_cons pe_int pa_nil))) pe_non)))))), ?_⟩
    have hb : ∃ rs, r.bytes = r.first :: rs := by cases r <;> exact ⟨_, rfl⟩
    obtain ⟨rs, eb⟩ := hb
    have hl0 : (0 : Int) < ((r.bytes.map V.int).length : Nat) := by rw [eb]; simp
    refine ⟨_, rfl, _, _, rfl, rfl, true, rfl, iteT ?_⟩
    refine ⟨_, rfl, cd, _, rfl, .inl (SqL.of hc), _, _, rfl, rfl, _, rfl, ?_⟩
    refine ifF (by rw [decide_eq_true hl0]; rfl) ?_
    have at0 : atI (r.bytes.map V.int) 0 = some (.int r.first) := by
      rw [eb]
      exact atI_nat (j := 0) rfl
    refine ⟨_, rfl, _, rfl, cd, _, 0, _, rfl, rfl, SqL.of hc, at0, r, rfl, ok, fun sh H1 v s1 hv => ?_, fun nsh H1 s1 => ?_⟩
    · obtain ⟨t, rfl, ht⟩ := hv
      refine ⟨_, rfl, rfl, _, rfl, iteT ?_⟩
      refine ⟨_, rfl, two_line, fun p hp => ?_⟩
      have s2 := new_same (o := .tup [.ref t, .int 1]) hp
      refine q _ p (.ref t) (s1.trans s2) (.inl ?_) ⟨t, rfl, ht.mv (Tups.of s2)⟩
      have e1 : r.bytes.length = 1 := by
        cases r with
        | jump _ _ => exact sh.elim
        | numd _ _ _ => exact sh.elim
        | alone _ => rfl
        | single _ _ => rfl
        | pair _ _ _ => rfl
      rw [e1]
      exact upd_same
    · have e2 : ∃ n, r.bytes = [r.first, n] := by
        cases r with
        | jump _ n => exact ⟨n, rfl⟩
        | numd _ _ n => exact ⟨n, rfl⟩
        | alone _ => exact absurd trivial nsh
        | single _ _ => exact absurd trivial nsh
        | pair _ _ _ => exact absurd trivial nsh
      obtain ⟨n, e2⟩ := e2
      have hc1 : H1 cd = some (.lst [.int r.first, .int n]) := by
        rw [s1 _ _ hc, e2]
        rfl
      refine ⟨_, rfl, rfl, _, rfl, iteF ?_⟩
      refine ⟨_, rfl, _, _, rfl, rfl, _, rfl, cd, _, rfl, .inl (SqL.of hc1), _, _, rfl, rfl, _, rfl, iteT ?_⟩
      refine ⟨_, rfl, _, rfl, cd, _, 0, _, rfl, rfl, SqL.of hc1, atI_nat (j := 0) rfl, _, rfl, _, rfl, _, _, rfl, rfl, cd, _, 1, _, rfl, rfl, SqL.of hc1, atI_nat (j := 1) rfl, r, n, rfl, ok, nsh, e2, fun H2 v s2 hv => ?_⟩
      obtain ⟨t, rfl, ht⟩ := hv
      refine ⟨_, rfl, rfl, _, rfl, iteT ?_⟩
      refine ⟨_, rfl, two_line, fun p hp => ?_⟩
      have s3 := new_same (o := .tup [.ref t, .int 2]) hp
      refine q _ p (.ref t) (s1.trans (s2.trans s3)) (.inl ?_) ⟨t, rfl, ht.mv (Tups.of s3)⟩
      rw [e2]
      exact upd_same
theorem ok_exit (F : Fun K "exit_of" "exit_of" (top 46) f fd) (T : ExitTabs w K mg) : FnOk P w K mg base CX0 1 f fd ["row", "behind"] (spExit K) := by
  have sc : FnScope ["row", "behind", "word"] ["row", "behind"] (defScope (top 46)) := sc_by (by decide +kernel)
  refine F.ok sc (fun vs H Q E h => ?_) fun cdv A outer s H vs Q E hr h => ?_
  · obtain ⟨v, r, b, rfl, _⟩ := h
    rfl
  · obtain ⟨v, r, b, rfl, ⟨t, rfl, ht⟩, ok, go, q⟩ := h
    obtain ⟨dA, gA, aY, aN⟩ := T.asked
    refine ⟨_, pss_cons (ps_set (i := 2) sc.nd rfl (.inl rfl) (pe_ix ix_tup (pv 0) pe_int (fun _ _ => rfl)))
      (pss_cons (ps_if (pt_cmpR op_eq (pv 2) pe_str (nomark _)) pss_never pss_nil)
      (pss_cons (ps_if (pt_cmpR op_eq (pv 2) pe_str (nomark _)) pss_never pss_nil)
      (pss_cons (ps_if (pt_cmpR op_eq (pv 2) pe_str (nomark _)) (pss_one (ps_ret (pe_tup (pa_cons pe_str (pa_cons (pe_ix ix_tup (pv 0) pe_int (fun _ _ => rfl)) pa_nil))))) pss_nil)
      (pss_cons (ps_if (pt_cmpR op_eq (pv 2) pe_str (nomark _)) pss_never pss_nil)
      (pss_cons (ps_if (pt_cmpR op_kin (pv 2) (pe_glob (v := .ref dA) rfl gA rfl) (by rfl))
        (pss_one (ps_ret (pe_tup (pa_cons pe_str (pa_cons (pe_ix ix_kmap (pe_glob (v := .ref dA) rfl gA rfl) (pv 2) (fun _ _ => rfl)) (pa_cons (pe_ix ix_tup (pv 0) pe_int (fun _ _ => rfl)) (pa_cons (pv 1) pa_nil))))))) pss_nil)
      (pss_one (ps_ret (pe_tup (pa_cons pe_str (pa_cons (pv 1) pa_nil)))))))))), ?_⟩
    have off : ∀ (x : Str) (xs : List V), rowV r = .str x :: xs → x ∈ offW → r.way b = .go b →
        tSeq (tIfS (tTest (tOp rEq (tVar 2) (tC (.str "halt")))) tNever tNext) (tSeq (tIfS (tTest (tOp rEq (tVar 2) (tC (.str "back")))) tNever tNext)
          (tSeq (tIfS (tTest (tOp rEq (tVar 2) (tC (.str "go")))) (tRet (tTup (tCons (tC (.str "go")) (tCons (tOp (rIxT K) (tVar 0) (tC (.int 1))) tNil)))) tNext)
          (tSeq (tIfS (tTest (tOp rEq (tVar 2) (tC (.str "call")))) tNever tNext)
          (tSeq (tIfS (tTest (tOp (rKIn K w) (tVar 2) (tC (.ref dA)))) (tRet (tTup (tCons (tC (.str "if")) (tCons (tOp (rKIx K w) (tC (.ref dA)) (tVar 2)) (tCons (tOp (rIxT K) (tVar 0) (tC (.int 1))) (tCons (tVar 1) tNil)))))) tNext)
          (tRet (tTup (tCons (tC (.str "go")) (tCons (tVar 1) tNil)))))))) { nx := fun _ H' => Q .non H', rt := Q } [some (.ref t), some (.int b), some (.str x)] H := by
      intro x xs ex hx ew
      obtain ⟨n1, n2, n3, n4⟩ := off_ne x hx
      refine ⟨_, rfl, rfl, _, rfl, ifF (dec_str_ne n1) ?_⟩
      refine ⟨_, rfl, rfl, _, rfl, ifF (dec_str_ne n2) ?_⟩
      refine ⟨_, rfl, rfl, _, rfl, ifF (dec_str_ne n3) ?_⟩
      refine ⟨_, rfl, rfl, _, rfl, ifF (dec_str_ne n4) ?_⟩
      refine ⟨_, rfl, Sum.inr x, dA, none, rfl, rfl, aN x hx, _, rfl, iteF ?_⟩
      refine ⟨_, rfl, two_line, fun p hp => ?_⟩
      rw [ew] at q
      exact q _ _ (new_same hp) ⟨p, rfl, .inl upd_same⟩
    cases r with
    | alone k =>
      have e : k = 2 := go
      subst e
      exact ⟨_, rfl, t, _, 0, _, rfl, rfl, ht.sq, rfl, off _ _ rfl off_rest rfl⟩
    | single k r => exact ⟨_, rfl, t, _, 0, _, rfl, rfl, ht.sq, rfl, off _ _ rfl (off_single k ok.1) rfl⟩
    | numd k r n => exact ⟨_, rfl, t, _, 0, _, rfl, rfl, ht.sq, rfl, off _ _ rfl (off_numd k ok.1) rfl⟩
    | pair k r s' => exact ⟨_, rfl, t, _, 0, _, rfl, rfl, ht.sq, rfl, off _ _ rfl (off_pair k ok.1) rfl⟩
    | jump k n =>
      have hk : k < 5 := go
      obtain ⟨n1, n2, n3, n4⟩ := jump_ne k hk
      refine ⟨_, rfl, t, _, 0, _, rfl, rfl, ht.sq, rfl, ?_⟩
      refine ⟨_, rfl, rfl, _, rfl, ifF (dec_str_ne n1) ?_⟩
      refine ⟨_, rfl, rfl, _, rfl, ifF (dec_str_ne n2) ?_⟩
      by_cases k0 : k = 0
      · subst k0
        refine ⟨_, rfl, rfl, _, rfl, ifT (dec_str_eq rfl) ?_⟩
        refine ⟨_, rfl, t, _, 1, _, rfl, rfl, ht.sq, rfl, two_line, fun p hp => ?_⟩
        exact q _ _ (new_same hp) ⟨p, rfl, .inl upd_same⟩
      · have k1 : 1 ≤ k := by omega
        have ew : (Row.jump k n).way b = .ask (askE k) n b := by
          match k, k0 with
          | 0, z => exact absurd rfl z
          | k + 1, _ => rfl
        rw [ew] at q
        obtain ⟨a, ka, ea⟩ := aY k k1 hk
        refine ⟨_, rfl, rfl, _, rfl, ifF (dec_str_ne (n4 k1)) ?_⟩
        refine ⟨_, rfl, rfl, _, rfl, ifF (dec_str_ne n3) ?_⟩
        refine ⟨_, rfl, Sum.inr _, dA, _, rfl, rfl, ka, _, rfl, iteT ?_⟩
        refine ⟨_, rfl, Sum.inr _, dA, _, rfl, rfl, ka, _, rfl, t, _, 1, _, rfl, rfl, ht.sq, rfl, _, rfl, (by show 4 ≤ sizeLine; decide), fun p hp => ?_⟩
        exact q _ _ (new_same hp) ⟨p, .ref a, rfl, .inl upd_same, ea _⟩
end
end Rwl

/-! W8: lifted. -/
namespace Rwl
open PySem PySem.Spec PyProof.Rows L2

/-- the table of lifts -/
structure LiftTab (P : Program) (w : World) (K : PySem.W.Frag) (mg : Str → Option Value) (base : Heap) : Prop where
  tab : ∃ d f0, mg "LIFTS" = some (.ref d) ∧ mg "lift_nothing" = some (.ref f0) ∧
    ∀ r : Row, r.ok → r.goes → ∃ fo R, R r ∧ Val P w K mg base 3 fo ["row"] (spLift K R) ∧ (KMap K w d (Sum.inr r.word) (some (.ref fo)) ∨ (KMap K w d (Sum.inr r.word) none ∧ fo = f0))
def spLifted (K : PySem.W.Frag) : Sp := fun vs H Q _ => ∃ cd r, vs = [.ref cd, .int 0] ∧ H cd = some (.lst (r.bytes.map V.int)) ∧ r.ok ∧ r.goes ∧
  ∀ H' p l us v, Same H H' → TupAt K H' p [.ref l, v] → H l = none → H' l = some (.lst us) → StsAt K H' us (stms r) → WayAt K H' v (r.way r.bytes.length) → Q (.ref p) H'
theorem row_head (r : Row) : ∃ xs, rowV r = .str r.word :: xs := by
  cases r <;> exact ⟨_, rfl⟩
theorem at_zero (x : V) (xs : List V) : atI (x :: xs) 0 = some x := atI_nat (j := 0) rfl
section
variable {P : Program} {w : World} {K : PySem.W.Frag} {mg : Str → Option Value} {base : Heap} {f : Addr} {fd : FuncData}
abbrev liN : List Str := ["code", "address", "found", "row", "many", "lift"]
theorem ok_lifted (F : Fun K "lifted" "lifted" (top 47) f fd) (C1 : Cal P w K mg base 2 "row_at" ["code", "address"] (spRowAt K)) (C2 : Cal P w K mg base 1 "exit_of" ["row", "behind"] (spExit K)) (T : LiftTab P w K mg base) :
    FnOk P w K mg base CX0 4 f fd ["code", "address"] (spLifted K) := by
  have sc : FnScope liN ["code", "address"] (defScope (top 47)) := sc_by (by decide +kernel)
  refine F.ok sc (fun vs H Q E h => ?_) fun cdv A outer s H vs Q E hr h => ?_
  · obtain ⟨cd, r, rfl, _⟩ := h
    rfl
  · obtain ⟨cd, r, rfl, hc, ok, go, q⟩ := h
    obtain ⟨dL, f0, gL, g0, tab⟩ := T.tab
    obtain ⟨fo, R, hR, ⟨fdo, G, kp, b⟩, key⟩ := tab r ok go
    obtain ⟨xs, ex⟩ := row_head r
    refine ⟨_, pss_cons (ps_set (i := 2) sc.nd rfl (.inl rfl) (pe_n C1 (hr.mono (by decide)) rfl (pa_cons (pv 0) (pa_cons (pv 1) pa_nil))))
      (pss_cons (ps_if (pt_cmpR op_isN (pv 2) pe_non (nomark _)) pss_never pss_nil)
      (pss_cons (ps_asg (pv 2) (pg_tup rfl (pgs_cons (pg_name (i := 3) sc.nd rfl (.inl rfl)) (pgs_cons (pg_name (i := 4) sc.nd rfl (.inl rfl)) pgs_nil))))
      (pss_cons (ps_set (i := 5) sc.nd rfl (.inl rfl) (pe_kget (pe_glob (v := .ref dL) rfl gL rfl) (pe_ix ix_tup (pv 3) pe_int (fun _ _ => rfl)) (pe_glob (v := .ref f0) rfl g0 rfl) ⟨rfl, rfl, rfl, rfl⟩))
      (pss_one (ps_ret (pe_tup (pa_cons (pe_callL (i := 5) (dvs := []) G hr rfl (.inl rfl) kp b .nil pass0 (pa_cons (pv 3) pa_nil)) (pa_cons (pe_n C2 (hr.mono (by decide)) rfl (pa_cons (pv 3) (pa_cons (pe_op op_add (pv 1) (pv 4)) pa_nil))) pa_nil)))))))), ?_⟩
    refine ⟨_, rfl, _, rfl, cd, r, rfl, hc, ok, fun H1 p1 v1 s1 t1 hv => ?_⟩
    obtain ⟨a, rfl, ha⟩ := hv
    refine ⟨_, rfl, rfl, _, rfl, iteF ?_⟩
    refine ⟨_, rfl, p1, _, rfl, t1.sq, rfl, _, _, rfl, _, _, rfl, rfl, ?_⟩
    have ha' : TupAt K H1 a (.str r.word :: xs) := by rw [← ex]; exact ha
    have hk0 : ∃ k0 r0, KMap K w dL k0 r0 := by
      rcases key with z | ⟨z, _⟩
      · exact ⟨_, _, z⟩
      · exact ⟨_, _, z⟩
    have rest : ∀ o, o = some (V.ref fo) ∨ (o = none ∧ fo = f0) → o.getD (.ref f0) = .ref fo := by
      rintro o (e | ⟨e, e2⟩)
      · rw [e]
        rfl
      · rw [e, e2]
        rfl
    obtain ⟨o, ho, eo⟩ : ∃ o, KMap K w dL (Sum.inr r.word) o ∧ o.getD (.ref f0) = .ref fo := by
      rcases key with z | ⟨z, e⟩
      · exact ⟨_, z, rest _ (.inl rfl)⟩
      · exact ⟨_, z, rest _ (.inr ⟨rfl, e⟩)⟩
    refine ⟨dL, rfl, hk0, _, rfl, a, _, 0, _, rfl, rfl, ha'.sq, at_zero _ _, Sum.inr r.word, o, rfl, ho, ?_⟩
    rw [eo]
    refine ⟨rfl, _, rfl, .ref a, r, rfl, hR, ⟨a, rfl, ha⟩, fun H2 l us s2 nl hl hs => ?_⟩
    refine ⟨_, rfl, _, rfl, _, rfl, _, _, rfl, rfl, .ref a, r, _, rfl, ⟨a, rfl, ha.mv (Tups.of s2)⟩, ok, go, fun H3 v3 s3 hw => ⟨two_line, fun p hp => ?_⟩⟩
    have s4 := new_same (o := .tup [.ref l, v3]) hp
    have w34 := s3.trans s4
    have eb : (0 : Int) + (r.bytes.length : Int) = (r.bytes.length : Int) := Int.zero_add _
    have hw' : WayAt K H3 v3 (r.way (0 + (r.bytes.length : Int))) := hw
    rw [eb] at hw'
    exact q _ p l us v3 (s1.trans (s2.trans w34)) (.inl upd_same) (s1.free nl) (w34 _ _ hl) (hs.mv (Tups.of w34)) (hw'.mv (Tups.of s4))
end
end Rwl

/-! W9: the spring and its draws. -/
namespace Rwl
open PySem PySem.Spec PyProof.Rows L2

def SprOk (H : Hp) (a : Addr) : Prop := ∃ f s c : Int, H a = some (.lst [.int f, .int s, .int c]) ∧ 0 ≤ s ∧ s < 2 ^ 61
/-- nothing but a is another -/
def Only1 (a : Addr) (H H' : Hp) : Prop := ∀ b, b ≠ a → H' b = H b
theorem upd_only {H : Hp} {a : Addr} {o : HO} : Only1 a H (upd H a o) := fun b hb => upd_ne hb
theorem Only1.trans {a : Addr} {H H1 H2 : Hp} (h : Only1 a H H1) (h' : Only1 a H1 H2) : Only1 a H H2 := fun b hb => (h' b hb).trans (h b hb)
theorem Only1.refl (a : Addr) (H : Hp) : Only1 a H H := fun _ _ => rfl
def spDraw : Sp := fun vs H Q _ => ∃ (a : Addr) (m : Int), vs = [.ref a, .int m] ∧ 0 < m ∧ m ≤ 256 ∧ SprOk H a ∧ ∀ (H' : Hp) (v : Nat), (v : Int) < m → SprOk H' a → Only1 a H H' → Q (.int v) H'
def spSpring (K : PySem.W.Frag) : Sp := fun vs H Q _ => ∃ (a : Addr) (ns : List Int), vs = [.ref a] ∧ SqL K H a (ns.map V.int) ∧ ns.length ≤ 63 ∧ ∀ H' p, Same H H' → H p = none → SprOk H' p → Q (.ref p) H'
abbrev drN : List Str := ["_law_spring_here", "_law_many", "_law_found", "_law_stir"]
abbrev bigM : Int := 2305843009213693951
theorem nat_of {x m : Int} (hm : 0 < m) : ∃ v : Nat, x % m = (v : Int) ∧ (v : Int) < m := by
  have h0 : 0 ≤ x % m := Int.emod_nonneg _ (by omega)
  have h1 : x % m < m := Int.emod_lt_of_pos _ hm
  exact ⟨(x % m).toNat, by omega, by omega⟩
theorem mod_big (x : Int) : 0 ≤ x % bigM ∧ x % bigM < 2 ^ 61 := by
  have h0 : 0 ≤ x % bigM := Int.emod_nonneg _ (by decide)
  have h1 : x % bigM < bigM := Int.emod_lt_of_pos _ (by decide)
  have h2 : bigM < 2 ^ 61 := by decide
  exact ⟨h0, by omega⟩
section
variable {P : Program} {w : World} {K : PySem.W.Frag} {mg : Str → Option Value} {base : Heap} {f : Addr} {fd : FuncData}
theorem ok_draw (F : Fun K "_law_draw" "_law_draw" (top 50) f fd) : FnOk P w K mg base CX0 1 f fd ["_law_spring_here", "_law_many"] spDraw := by
  have sc : FnScope drN ["_law_spring_here", "_law_many"] (defScope (top 50)) := sc_by (by decide +kernel)
  refine F.ok sc (fun vs H Q E h => ?_) fun cdv A outer s H vs Q E hr h => ?_
  · obtain ⟨a, m, rfl, _⟩ := h
    rfl
  · obtain ⟨a, m, rfl, hm, hm2, ⟨x, y, c, hl, y0, y1⟩, q⟩ := h
    refine ⟨_, pss_cons (ps_if (pt_cmpR op_gt (pe_ix ix_list (pv 0) pe_int (fun _ _ => rfl)) pe_int (nomark _))
        (pss_cons (ps_set (i := 2) sc.nd rfl (.inl rfl) (pe_op op_mod (pe_ix ix_list (pv 0) pe_int (fun _ _ => rfl)) (pv 1)))
        (pss_cons (ps_asg (pe_op op_fdiv (pe_ix ix_list (pv 0) pe_int (fun _ _ => rfl)) (pv 1)) (pg_sub (pv 0) pe_int set_list))
        (pss_one (ps_ret (pv 2))))) pss_nil)
      (pss_cons (ps_asg (pe_op op_add (pe_ix ix_list (pv 0) pe_int (fun _ _ => rfl)) pe_int) (pg_sub (pv 0) pe_int set_list))
      (pss_cons (ps_set (i := 3) sc.nd rfl (.inl rfl) (pe_op op_mod (pe_op op_mul (pe_ix ix_list (pv 0) pe_int (fun _ _ => rfl)) (pe_ix ix_list (pv 0) pe_int (fun _ _ => rfl))) pe_int))
      (pss_cons (ps_asg (pe_op op_mod (pe_op op_add (pe_op op_add (pv 3) (pe_op op_mul (pe_op op_mul pe_int (pe_ix ix_list (pv 0) pe_int (fun _ _ => rfl))) (pe_ix ix_list (pv 0) pe_int (fun _ _ => rfl)))) pe_int) pe_int) (pg_sub (pv 0) pe_int set_list))
      (pss_one (ps_ret (pe_op op_mod (pe_op op_fdiv (pe_ix ix_list (pv 0) pe_int (fun _ _ => rfl)) pe_int) (pv 1))))))), ?_⟩
    have ml : m < 1073741824 := by omega
    refine ⟨_, rfl, a, _, 0, _, rfl, rfl, SqL.of hl, rfl, _, _, rfl, rfl, _, rfl, ?_⟩
    refine ite2 (fun hx => ?_) (fun hx => ?_)
    · obtain ⟨v, ev, hv⟩ := nat_of (x := x) hm
      refine ⟨_, rfl, a, _, 0, _, rfl, rfl, SqL.of hl, rfl, _, rfl, _, _, rfl, rfl, hm, ?_⟩
      refine ⟨_, rfl, a, _, 0, _, rfl, rfl, SqL.of hl, rfl, _, rfl, _, _, rfl, rfl, ⟨hm, ml⟩, ?_⟩
      refine ⟨_, rfl, a, _, 0, 0, rfl, rfl, hl, rfl, _, rfl, ?_⟩
      show Q (.int (x % m)) _
      rw [ev]
      exact q _ v hv ⟨_, _, _, upd_same, y0, y1⟩ upd_only
    · refine ⟨_, rfl, a, _, 2, _, rfl, rfl, SqL.of hl, rfl, _, _, rfl, rfl, ?_⟩
      refine ⟨_, rfl, a, _, 2, 2, rfl, rfl, hl, rfl, ?_⟩
      have h1 : upd H a (.lst ([V.int x, V.int y, V.int c].set 2 (V.int (c + 1)))) a = some (.lst [.int x, .int y, .int (c + 1)]) := upd_same
      refine ⟨_, rfl, a, _, 1, _, rfl, rfl, SqL.of h1, rfl, _, rfl, a, _, 1, _, rfl, rfl, SqL.of h1, rfl, _, _, rfl, rfl, .inl ⟨by omega, by omega⟩, _, _, rfl, rfl, (by show (0 : Int) < bigM; decide), ?_⟩
      refine ⟨_, rfl, _, rfl, a, _, 2, _, rfl, rfl, SqL.of h1, rfl, _, _, rfl, rfl, .inl ⟨by decide, by decide⟩, _, rfl, a, _, 1, _, rfl, rfl, SqL.of h1, rfl, _, _, rfl, rfl, .inr ⟨by omega, by omega⟩, _, _, rfl, rfl, _, _, rfl, rfl, _, _, rfl, rfl, (by show (0 : Int) < bigM; decide), ?_⟩
      refine ⟨_, rfl, a, _, 1, 1, rfl, rfl, h1, rfl, ?_⟩
      obtain ⟨m0, m1⟩ := mod_big (y * y % bigM + 7919 * (c + 1) * y + 104729)
      refine ⟨_, rfl, a, _, 1, _, rfl, rfl, SqL.of upd_same, rfl, _, _, rfl, rfl, ⟨by decide, by decide⟩, _, rfl, _, _, rfl, rfl, hm, ?_⟩
      obtain ⟨v, ev, hv⟩ := nat_of (x := (y * y % bigM + 7919 * (c + 1) * y + 104729) % bigM / 65537) hm
      show Q (.int ((y * y % bigM + 7919 * (c + 1) * y + 104729) % bigM / 65537 % m)) _
      rw [ev]
      exact q _ v hv ⟨_, _, _, upd_same, m0, m1⟩ (upd_only.trans upd_only)
abbrev spN : List Str := ["_law_script", "_law_figures", "_law_stir", "_law_cell"]
theorem cut_ints (ns : List Int) (lo hi : Option Int) : ∃ ms : List Int, cutV (ns.map V.int) lo hi = ms.map V.int ∧ ms.length ≤ ns.length := by
  refine ⟨(ns.drop (HT.sIx ns.length 0 lo)).take (HT.sIx ns.length ns.length hi - HT.sIx ns.length 0 lo), ?_, ?_⟩
  · unfold cutV
    rw [List.length_map, List.map_take, List.map_drop]
  · rw [List.length_take, List.length_drop]
    omega
theorem figs_up {x r t : Int} {i : Nat} (h0 : 0 ≤ x) (h : x < 2 ^ (200 * i)) (r0 : 0 ≤ r) (r1 : r < t) (ht : t ≤ 2 ^ 200) : 0 ≤ x * t + r ∧ x * t + r < 2 ^ (200 * (i + 1)) := by
  have t0 : 0 ≤ t := by omega
  have e : (2 : Int) ^ (200 * (i + 1)) = 2 ^ (200 * i) * 2 ^ 200 := by rw [show 200 * (i + 1) = 200 * i + 200 by omega, Int.pow_add]
  have a0 : 0 ≤ x * t := Int.mul_nonneg h0 t0
  have a1 : (x + 1) * t ≤ 2 ^ (200 * i) * t := Int.mul_le_mul_of_nonneg_right (by omega) t0
  have a2 : (2 : Int) ^ (200 * i) * t ≤ 2 ^ (200 * i) * 2 ^ 200 := Int.mul_le_mul_of_nonneg_left ht (by omega)
  have a3 : (x + 1) * t = x * t + t := by rw [Int.add_mul, Int.one_mul]
  rw [e]
  omega
theorem figs_bits {x : Int} {i : Nat} (h0 : 0 ≤ x) (h : x < 2 ^ (200 * i)) : x.natAbs < 2 ^ (200 * i + 1) := by
  have e : ((2 ^ (200 * i) : Nat) : Int) = (2 : Int) ^ (200 * i) := by simp
  have e2 : 2 ^ (200 * i + 1) = 2 ^ (200 * i) * 2 := Nat.pow_succ ..
  omega
theorem ok_spring (F : Fun K "_law_spring" "_law_spring" (top 49) f fd) (ga : mg "abs" = none) : FnOk P w K mg base CX0 1 f fd ["_law_script"] (spSpring K) := by
  have sc : FnScope spN ["_law_script"] (defScope (top 49)) := sc_by (by decide +kernel)
  refine F.ok sc (fun vs H Q E h => ?_) fun cdv A outer s H vs Q E hr h => ?_
  · obtain ⟨a, ns, rfl, _⟩ := h
    rfl
  · obtain ⟨a, ns, rfl, hS, hlen, q⟩ := h
    refine ⟨_, pss_cons (ps_set (i := 1) sc.nd rfl (.inl rfl) pe_int)
      (pss_cons (ps_set (i := 2) sc.nd rfl (.inl rfl) pe_int)
      (pss_cons (ps_for PassesOwn.never rfl (pi_list (pe_slice sl_list (pv 0) po_none (po_some pe_int))) (pg_name (i := 3) sc.nd rfl (.inl rfl))
        (pss_cons (ps_if (pt_cmpR op_ge (pe_callB call_abs (by rfl) ga (by decide +kernel) (pa_cons (pv 3) pa_nil)) (pe_op op_pow pe_int pe_int) (nomark _))
          (pss_one (ps_set (i := 1) sc.nd rfl (.inl rfl) (pe_op op_add (pe_op op_mulW (pv 1) (pe_op op_pow pe_int pe_int)) (pe_op op_mod (pe_callB call_abs (by rfl) ga (by decide +kernel) (pa_cons (pv 3) pa_nil)) (pe_op op_pow pe_int pe_int))))) pss_nil)
        (pss_one (ps_set (i := 2) sc.nd rfl (.inl rfl) (pe_op op_mod (pe_op op_add (pe_op op_add (pe_op op_mul (pv 2) pe_int) (pe_op op_mod (pv 3) pe_int)) pe_int) pe_int)))))
      (pss_one (ps_ret (pe_lst (pa_cons (pv 1) (pa_cons (pv 2) (pa_cons pe_int pa_nil)))))))), ?_⟩
    obtain ⟨ms, em, hm⟩ := cut_ints ns none (some 63)
    refine ⟨_, rfl, 63, rfl, a, _, rfl, hS, fun p np => ?_⟩
    have s0 : Same H (upd H p (.lst (cutV (ns.map V.int) none (some 63)))) := new_same np
    refine ⟨p, rfl, ⟨_, SqL.of upd_same⟩, for_list (K := K) (a := p) (xs := cutV (ns.map V.int) none (some 63))
      (fun i σ H' => ∃ (x y : Int) (v : Option V), σ = [some (.ref a), some (.int x), some (.int y), v] ∧ 0 ≤ x ∧ x < 2 ^ (200 * i) ∧ 0 ≤ y ∧ y < 2 ^ 61 ∧ Same H H' ∧ H' p = some (.lst (cutV (ns.map V.int) none (some 63))))
      ⟨0, 88651, none, rfl, by decide, by decide, by decide, by decide, s0, upd_same⟩ (fun i σ H' _ ⟨_, _, _, _, _, _, _, _, _, hp⟩ => SqL.of hp) ?_ ?_⟩
    · rintro i v σ H' hi ⟨x, y, u, rfl, x0, x1, y0, y1, s1, hp⟩
      obtain ⟨z, rfl⟩ : ∃ z, v = V.int z := by
        rw [em, List.getElem?_map] at hi
        cases e : ms[i]? with
        | none =>
          rw [e] at hi
          cases hi
        | some z =>
          rw [e] at hi
          exact ⟨z, (Option.some.inj hi).symm⟩
      have i63 : i < 63 := by
        have e := (List.getElem?_eq_some_iff.mp hi).1
        rw [em, List.length_map] at e
        omega
      have T60 : (10 : Int) ^ (60 : Int).toNat ≤ 2 ^ 200 := by decide
      have T0 : (0 : Int) < 10 ^ (60 : Int).toNat := by decide
      have up : x < 2 ^ (200 * (i + 1)) := by
        have e : (2 : Int) ^ (200 * (i + 1)) = 2 ^ (200 * i) * 2 ^ 200 := by rw [show 200 * (i + 1) = 200 * i + 200 by omega, Int.pow_add]
        have p0 : (0 : Int) ≤ 2 ^ (200 * i) := by omega
        have p1 : (2 : Int) ^ (200 * i) * 1 ≤ 2 ^ (200 * i) * 2 ^ 200 := Int.mul_le_mul_of_nonneg_left (by decide) p0
        rw [e]
        omega
      have fin : ∀ x', 0 ≤ x' → x' < 2 ^ (200 * (i + 1)) →
          tAsg (tOp (rI (fun _ j => 0 < j) fun i j => V.int (i % j)) (tOp (rI0 fun i j => V.int (i + j)) (tOp (rI0 fun i j => V.int (i + j)) (tOp (rI CMul fun i j => V.int (i * j)) (tVar 2) (tC (.int 69069)))
            (tOp (rI (fun _ j => 0 < j) fun i j => V.int (i % j)) (tVar 3) (tC (.int 2305843009213693921)))) (tC (.int 7))) (tC (.int 2305843009213693951))) (gName 2)
          { nx := fun σ H' => ∃ (x y : Int) (v : Option V), σ = [some (.ref a), some (.int x), some (.int y), v] ∧ 0 ≤ x ∧ x < 2 ^ (200 * (i + 1)) ∧ 0 ≤ y ∧ y < 2 ^ 61 ∧ Same H H' ∧ H' p = some (.lst (cutV (ns.map V.int) none (some 63))), rt := Q }
          [some (.ref a), some (.int x'), some (.int y), some (.int z)] H' := by
        intro x' h0 h1
        obtain ⟨m0, m1⟩ := mod_big (y * 69069 + z % 2305843009213693921 + 7)
        exact ⟨_, rfl, _, _, rfl, rfl, .inl ⟨by omega, by omega⟩, _, rfl, _, _, rfl, rfl, (by show (0 : Int) < _; decide), _, _, rfl, rfl, _, _, rfl, rfl, _, _, rfl, rfl, (by show (0 : Int) < _; decide), x', _, _, rfl, h0, h1, m0, m1, s1, hp⟩
      refine ⟨_, rfl, _, rfl, _, _, rfl, rfl, ⟨by decide, by decide, by decide⟩, _, _, rfl, rfl, _, rfl, ?_⟩
      refine ite2 (fun hz => ?_) (fun hz => ?_)
      · have rr : ∀ k : Int, 0 ≤ k % (10 : Int) ^ (60 : Int).toNat ∧ k % (10 : Int) ^ (60 : Int).toNat < 10 ^ (60 : Int).toNat := fun k => ⟨Int.emod_nonneg _ (by omega), Int.emod_lt_of_pos _ T0⟩
        refine ⟨_, rfl, _, _, rfl, rfl, ⟨by decide, by decide, by decide⟩, _, _, rfl, rfl, ?_, ?_⟩
        · exact wide_mul (a := 200 * i + 1) (b := 201) (figs_bits x0 x1) (by decide) (by omega) (by omega) (by omega)
        · refine ⟨_, rfl, _, rfl, _, _, rfl, rfl, ⟨by decide, by decide, by decide⟩, _, _, rfl, rfl, T0, _, _, rfl, rfl, ?_⟩
          obtain ⟨r0, r1⟩ := rr (if z < 0 then -z else z)
          obtain ⟨g0, g1⟩ := figs_up x0 x1 r0 r1 T60
          exact fin _ g0 g1
      · exact fin x x0 up
    · rintro σ H' ⟨x, y, v, rfl, _, _, y0, y1, s1, hp⟩
      refine ⟨_, rfl, _, rfl, three_line, fun l hl => ?_⟩
      exact q _ l (s1.trans (new_same hl)) (s1.free hl) ⟨x, y, 0, upd_same, y0, y1⟩
end
end Rwl

/-! W10: a drawn row. -/
namespace Rwl
open PySem PySem.Spec PyProof.Rows L2

/-- but for S all that was tracked is as it was -/
structure Kp (S : List Addr) (H H' : Hp) : Prop where
  keep : ∀ b o, b ∉ S → H b = some o → H' b = some o
  tups : Tups H H'
theorem Kp.refl (S : List Addr) (H : Hp) : Kp S H H := ⟨fun _ _ _ h => h, fun _ _ h => h⟩
theorem Kp.trans {S : List Addr} {H H1 H2 : Hp} (h : Kp S H H1) (h' : Kp S H1 H2) : Kp S H H2 := ⟨fun b o hb e => h'.keep b o hb (h.keep b o hb e), fun b xs e => h'.tups b xs (h.tups b xs e)⟩
theorem Kp.of {S : List Addr} {H H' : Hp} (s : Same H H') : Kp S H H' := ⟨fun b o _ e => s b o e, Tups.of s⟩
theorem Kp.mono {S S' : List Addr} {H H' : Hp} (h : Kp S H H') (m : ∀ b, b ∈ S → b ∈ S') : Kp S' H H' := ⟨fun b o hb e => h.keep b o (fun q => hb (m b q)) e, h.tups⟩
theorem Kp.same {H H' : Hp} (h : Kp [] H H') : Same H H' := fun b o e => h.keep b o (fun q => nomatch q) e
theorem SprOk.same {H H' : Hp} {a : Addr} (h : SprOk H a) (s : Same H H') : SprOk H' a := by
  obtain ⟨f, t, c, e, h0, h1⟩ := h
  exact ⟨f, t, c, s _ _ e, h0, h1⟩
theorem SprOk.kp {S : List Addr} {H H' : Hp} {a : Addr} (h : SprOk H a) (s : Kp S H H') (ha : a ∉ S) : SprOk H' a := by
  obtain ⟨f, t, c, e, h0, h1⟩ := h
  exact ⟨f, t, c, s.keep _ _ ha e, h0, h1⟩
theorem Kp.drawn {H H' : Hp} {a : Addr} (h : SprOk H a) (o : Only1 a H H') : Kp [a] H H' := by
  obtain ⟨f, t, c, e, _⟩ := h
  refine ⟨fun b u hb q => ?_, fun b xs q => ?_⟩
  · rw [o b (fun z => hb (by rw [z]; exact List.mem_singleton.mpr rfl))]
    exact q
  · rw [o b (fun z => by rw [z, e] at q; cases q)]
    exact q
theorem SprOk.ne {H : Hp} {a p : Addr} (h : SprOk H a) (n : H p = none) : p ≠ a := by
  obtain ⟨f, t, c, e, _⟩ := h
  exact (ne_of_none e n).symm
theorem Only1.list {a p : Addr} {H H' : Hp} {xs : List V} (o : Only1 a H H') (n : p ≠ a) (h : H p = some (.lst xs)) : H' p = some (.lst xs) := by
  rw [o p n]
  exact h
theorem pick3 {x y z : Int} (hx : byteOk x) (hy : byteOk y) (hz : byteOk z) {v : Nat} (hv : (v : Int) < 3) : ∃ n, byteOk n ∧ atI [V.int x, V.int y, V.int z] (v : Int) = some (.int n) := by
  have hc : v = 0 ∨ v = 1 ∨ v = 2 := by omega
  rcases hc with rfl | rfl | rfl
  · exact ⟨x, hx, rfl⟩
  · exact ⟨y, hy, rfl⟩
  · exact ⟨z, hz, rfl⟩
theorem strs_get {ws : List Str} {v : Nat} (h : v < ws.length) : atI (ws.map V.str) (v : Int) = some (.str (ws.getD v "")) := by
  refine atI_nat ?_
  rw [List.getElem?_map, List.getElem?_eq_getElem h, List.getD_eq_getElem?_getD, List.getElem?_eq_getElem h]
  rfl
theorem byte_of {v : Nat} {m : Int} (h : (v : Int) < m) (hm : m ≤ 256) : byteOk (v : Int) := ⟨by omega, by omega⟩
def spDrawn (K : PySem.W.Frag) : Sp := fun vs H Q _ => ∃ a, vs = [.ref a] ∧ SprOk H a ∧ ∀ H' v r, SprOk H' a → Kp [a] H H' → r.ok → RowAt K H' v r → Q v H'
abbrev dwN : List Str := ["_law_spring_here", "_law_r", "_law_s", "_law_n", "_law_pick", "_law_some"]
abbrev dps : List Str := ["_law_spring_here", "_law_many"]
section
variable {P : Program} {w : World} {K : PySem.W.Frag} {mg : Str → Option Value} {base : Heap} {f : Addr} {fd : FuncData}
theorem ok_drawn (F : Fun K "_law_drawn_row" "_law_drawn_row" (top 53) f fd) (C : Cal P w K mg base 1 "_law_draw" dps spDraw) : FnOk P w K mg base CX0 2 f fd ["_law_spring_here"] (spDrawn K) := by
  have sc : FnScope dwN ["_law_spring_here"] (defScope (top 53)) := sc_by (by decide +kernel)
  refine F.ok sc (fun vs H Q E h => ?_) fun cdv A outer s H vs Q E hr h => ?_
  · obtain ⟨a, rfl, _⟩ := h
    rfl
  · obtain ⟨a, rfl, sp, q⟩ := h
    refine ⟨_, pss_cons (ps_par (i := 1) (j := 2) (by rfl) sc.nd rfl rfl (by decide) rfl rfl (pa_cons (pe_ix ix_str pe_str (pe_n C hr rfl (pa_cons (pv 0) (pa_cons pe_int pa_nil))) (fun _ _ => rfl)) (pa_cons (pe_ix ix_str pe_str (pe_n C hr rfl (pa_cons (pv 0) (pa_cons pe_int pa_nil))) (fun _ _ => rfl)) pa_nil)) (by rfl))
      (pss_cons (ps_set (i := 3) sc.nd rfl (.inl rfl) (pe_ix ix_list (pe_lst (pa_cons (pe_n C hr rfl (pa_cons (pv 0) (pa_cons pe_int pa_nil))) (pa_cons (pe_n C hr rfl (pa_cons (pv 0) (pa_cons pe_int pa_nil))) (pa_cons (pe_op op_sub pe_int (pe_n C hr rfl (pa_cons (pv 0) (pa_cons pe_int pa_nil)))) pa_nil))))
        (pe_n C hr rfl (pa_cons (pv 0) (pa_cons pe_int pa_nil))) (fun _ _ => rfl)))
      (pss_cons (ps_set (i := 4) sc.nd rfl (.inl rfl) (pe_n C hr rfl (pa_cons (pv 0) (pa_cons pe_int pa_nil))))
      (pss_cons (ps_if (pt_cmpR op_lt (pv 4) pe_int (nomark _))
        (pss_one (ps_ret (pe_tup (pa_cons (pe_ix ix_list (pe_lst (pa_cons pe_str (pa_cons pe_str (pa_cons pe_str (pa_cons pe_str pa_nil))))) (pe_n C hr rfl (pa_cons (pv 0) (pa_cons pe_int pa_nil))) (fun _ _ => rfl)) (pa_cons (pv 1) (pa_cons (pv 3) pa_nil)))))) pss_nil)
      (pss_cons (ps_if (pt_cmpR op_lt (pv 4) pe_int (nomark _))
        (pss_cons (ps_set (i := 5) sc.nd rfl (.inl rfl) (pe_lst (pa_cons pe_str (pa_cons pe_str (pa_cons pe_str (pa_cons pe_str (pa_cons pe_str (pa_cons pe_str (pa_cons pe_str (pa_cons pe_str (pa_cons pe_str pa_nil)))))))))))
        (pss_one (ps_ret (pe_tup (pa_cons (pe_ix ix_list (pv 5) (pe_n C hr rfl (pa_cons (pv 0) (pa_cons pe_int pa_nil))) (fun _ _ => rfl)) (pa_cons (pv 1) (pa_cons (pv 2) pa_nil))))))) pss_nil)
      (pss_cons (ps_if (pt_cmpR op_lt (pv 4) pe_int (nomark _))
        (pss_one (ps_ret (pe_tup (pa_cons (pe_ix ix_list (pe_lst (pa_cons pe_str (pa_cons pe_str (pa_cons pe_str (pa_cons pe_str (pa_cons pe_str (pa_cons pe_str pa_nil))))))) (pe_n C hr rfl (pa_cons (pv 0) (pa_cons pe_int pa_nil))) (fun _ _ => rfl)) (pa_cons pe_int pa_nil))))) pss_nil)
      (pss_cons (ps_if (pt_cmpR op_lt (pv 4) pe_int (nomark _))
        (pss_one (ps_ret (pe_tup (pa_cons (pe_ix ix_list (pe_lst (pa_cons pe_str (pa_cons pe_str (pa_cons pe_str (pa_cons pe_str pa_nil))))) (pe_n C hr rfl (pa_cons (pv 0) (pa_cons pe_int pa_nil))) (fun _ _ => rfl)) (pa_cons (pv 1) pa_nil))))) pss_nil)
      (pss_one (ps_ret (pe_tup (pa_cons (pe_ix ix_list (pe_lst (pa_cons pe_str (pa_cons pe_str (pa_cons pe_str pa_nil)))) (pe_n C hr rfl (pa_cons (pv 0) (pa_cons pe_int pa_nil))) (fun _ _ => rfl)) pa_nil)))))))))), ?_⟩
    have d4 : (0 : Int) < 4 ∧ (4 : Int) ≤ 256 := by decide
    refine ⟨_, rfl, a, 4, rfl, by decide, by decide, sp, fun H1 r l1 p1 o1 => ?_⟩
    refine ⟨_, _, _, rfl, rfl, abcd_len, box_at r (by omega), _, rfl, a, 4, rfl, by decide, by decide, p1, fun H2 s' l2 p2 o2 => ?_⟩
    refine ⟨_, _, _, rfl, rfl, abcd_len, box_at s' (by omega), _, _, rfl, ?_⟩
    have k2 : Kp [a] H H2 := (Kp.drawn sp o1).trans (Kp.drawn p1 o2)
    refine ⟨_, rfl, a, 4, rfl, by decide, by decide, p2, fun H3 v3 l3 p3 o3 => ?_⟩
    refine ⟨_, rfl, a, 256, rfl, by decide, by decide, p3, fun H4 v4 l4 p4 o4 => ?_⟩
    refine ⟨_, rfl, a, 3, rfl, by decide, by decide, p4, fun H5 v5 l5 p5 o5 => ⟨_, _, rfl, rfl, three_line, fun t nt => ?_⟩⟩
    have s5 := new_same (o := .lst [.int v3, .int v4, .int (255 - (v5 : Int))]) nt
    have k5 : Kp [a] H H5 := ((k2.trans (Kp.drawn p2 o3)).trans (Kp.drawn p3 o4)).trans (Kp.drawn p4 o5)
    refine ⟨_, rfl, a, 3, rfl, by decide, by decide, p5.same s5, fun H6 v6 l6 p6 o6 => ?_⟩
    have h6 : H6 t = some (.lst [.int v3, .int v4, .int (255 - (v5 : Int))]) := o6.list (p5.ne nt) upd_same
    obtain ⟨n, nb, en⟩ := pick3 (byte_of l3 (by decide)) (byte_of l4 (by decide)) (show byteOk (255 - (v5 : Int)) from ⟨by omega, by omega⟩) l6
    have k6 : Kp [a] H H6 := (k5.trans (Kp.of s5)).trans (Kp.drawn (p5.same s5) o6)
    refine ⟨t, _, _, _, rfl, rfl, SqL.of h6, en, ?_⟩
    refine ⟨_, rfl, a, 12, rfl, by decide, by decide, p6, fun H7 v7 l7 p7 o7 => ?_⟩
    have k7 : Kp [a] H H7 := k6.trans (Kp.drawn p6 o7)
    refine ⟨_, rfl, _, _, rfl, rfl, _, rfl, ?_⟩
    refine ite2 (fun _ => ?_) (fun _ => ?_)
    · refine ⟨by decide, fun l nl => ⟨_, rfl, a, 4, rfl, by decide, by decide, p7.same (new_same nl), fun H8 v8 l8 p8 o8 => ?_⟩⟩
      have h8 : H8 l = some (.lst (numdW.map V.str)) := o8.list (p7.ne nl) upd_same
      refine ⟨l, _, _, _, rfl, rfl, SqL.of h8, strs_get (show v8 < 4 by omega), _, rfl, _, rfl, three_line, fun p hp => ?_⟩
      have k8 := (k7.trans (Kp.of (new_same nl))).trans (Kp.drawn (p7.same (new_same nl)) o8)
      exact q _ _ (.numd v8 r n) (p8.same (new_same hp)) (k8.trans (Kp.of (new_same hp))) ⟨by omega, by omega, nb⟩ ⟨p, rfl, .inl upd_same⟩
    · refine ⟨_, rfl, _, _, rfl, rfl, _, rfl, ?_⟩
      refine ite2 (fun _ => ?_) (fun _ => ?_)
      · refine ⟨by decide, fun l nl => ⟨_, rfl, _, rfl, a, 9, rfl, by decide, by decide, p7.same (new_same nl), fun H8 v8 l8 p8 o8 => ?_⟩⟩
        have h8 : H8 l = some (.lst (pairW.map V.str)) := o8.list (p7.ne nl) upd_same
        refine ⟨l, _, _, _, rfl, rfl, SqL.of h8, strs_get (show v8 < 9 by omega), _, rfl, _, rfl, three_line, fun p hp => ?_⟩
        have k8 := (k7.trans (Kp.of (new_same nl))).trans (Kp.drawn (p7.same (new_same nl)) o8)
        exact q _ _ (.pair v8 r s') (p8.same (new_same hp)) (k8.trans (Kp.of (new_same hp))) ⟨by omega, by omega, by omega⟩ ⟨p, rfl, .inl upd_same⟩
      · refine ⟨_, rfl, _, _, rfl, rfl, _, rfl, ?_⟩
        refine ite2 (fun _ => ?_) (fun _ => ?_)
        · refine ⟨by decide, fun l nl => ⟨_, rfl, a, 6, rfl, by decide, by decide, p7.same (new_same nl), fun H8 v8 l8 p8 o8 => ?_⟩⟩
          have h8 : H8 l = some (.lst (jumpW.map V.str)) := o8.list (p7.ne nl) upd_same
          refine ⟨l, _, _, _, rfl, rfl, SqL.of h8, strs_get (show v8 < 6 by omega), two_line, fun p hp => ?_⟩
          have k8 := (k7.trans (Kp.of (new_same nl))).trans (Kp.drawn (p7.same (new_same nl)) o8)
          exact q _ _ (.jump v8 0) (p8.same (new_same hp)) (k8.trans (Kp.of (new_same hp))) ⟨by omega, by decide, by decide⟩ ⟨p, rfl, .inl upd_same⟩
        · refine ⟨_, rfl, _, _, rfl, rfl, _, rfl, ?_⟩
          refine ite2 (fun _ => ?_) (fun _ => ?_)
          · refine ⟨by decide, fun l nl => ⟨_, rfl, a, 4, rfl, by decide, by decide, p7.same (new_same nl), fun H8 v8 l8 p8 o8 => ?_⟩⟩
            have h8 : H8 l = some (.lst (singleW.map V.str)) := o8.list (p7.ne nl) upd_same
            refine ⟨l, _, _, _, rfl, rfl, SqL.of h8, strs_get (show v8 < 4 by omega), _, rfl, two_line, fun p hp => ?_⟩
            have k8 := (k7.trans (Kp.of (new_same nl))).trans (Kp.drawn (p7.same (new_same nl)) o8)
            exact q _ _ (.single v8 r) (p8.same (new_same hp)) (k8.trans (Kp.of (new_same hp))) ⟨by omega, by omega⟩ ⟨p, rfl, .inl upd_same⟩
          · refine ⟨by decide, fun l nl => ⟨_, rfl, a, 3, rfl, by decide, by decide, p7.same (new_same nl), fun H8 v8 l8 p8 o8 => ?_⟩⟩
            have h8 : H8 l = some (.lst (aloneW.map V.str)) := o8.list (p7.ne nl) upd_same
            refine ⟨l, _, _, _, rfl, rfl, SqL.of h8, strs_get (show v8 < 3 by omega), one_line, fun p hp => ?_⟩
            have k8 := (k7.trans (Kp.of (new_same nl))).trans (Kp.drawn (p7.same (new_same nl)) o8)
            exact q _ _ (.alone v8) (p8.same (new_same hp)) (k8.trans (Kp.of (new_same hp))) (by show v8 < 3; omega) ⟨p, rfl, .inl upd_same⟩
end
end Rwl

/-! W11: the law's old machine in the heap; fresh, marks. -/
namespace Rwl
open PySem PySem.Spec PyProof.Rows L2

structure Ft where
  m : Addr
  n : Addr
  c : Addr
  k : Addr
  p : Addr
  i : Addr
  o : Addr
def Ft.all (F : Ft) : List Addr := [F.m, F.n, F.c, F.k, F.p, F.i, F.o]
def mKeys : List Str := ["names", "cells", "kept", "places", "inputs", "outs"]
def mkv (F : Ft) : List (Key × V) := [(Sum.inr "names", .ref F.n), (Sum.inr "cells", .ref F.c), (Sum.inr "kept", .ref F.k), (Sum.inr "places", .ref F.p), (Sum.inr "inputs", .ref F.i), (Sum.inr "outs", .ref F.o)]
structure MAt (H : Hp) (F : Ft) (m : M) : Prop where
  md : H F.m = some (.dK (mkv F))
  nm : H F.n = some (.dK (nkv m.names))
  cl : H F.c = some (.lst (m.cells.map V.int))
  kp : H F.k = some (.lst (m.kept.map V.int))
  pl : H F.p = some (.lst [])
  inp : H F.i = some (.lst (m.inputs.map V.int))
  out : H F.o = some (.lst (m.outs.map V.int))
  nd : F.all.Nodup
theorem MAt.kp' {S : List Addr} {H H' : Hp} {F : Ft} {m : M} (h : MAt H F m) (s : Kp S H H') (d : ∀ b ∈ F.all, b ∉ S) : MAt H' F m :=
  ⟨s.keep _ _ (d _ (by simp [Ft.all])) h.md, s.keep _ _ (d _ (by simp [Ft.all])) h.nm, s.keep _ _ (d _ (by simp [Ft.all])) h.cl, s.keep _ _ (d _ (by simp [Ft.all])) h.kp,
    s.keep _ _ (d _ (by simp [Ft.all])) h.pl, s.keep _ _ (d _ (by simp [Ft.all])) h.inp, s.keep _ _ (d _ (by simp [Ft.all])) h.out, h.nd⟩
theorem MAt.same {H H' : Hp} {F : Ft} {m : M} (h : MAt H F m) (s : Same H H') : MAt H' F m := h.kp' (S := []) (Kp.of s) fun _ _ z => nomatch z
theorem Kp.set {S : List Addr} {H : Hp} {a : Addr} {o o' : HO} (ha : a ∈ S) (h : H a = some o) (nt : ∀ xs, o ≠ .tup xs) : Kp S H (upd H a o') :=
  ⟨fun b u hb e => by rw [upd_ne (fun z => hb (by rw [z]; exact ha))]; exact e, fun b xs e => by rw [upd_ne (ne_of e h (fun z => nt xs z.symm))]; exact e⟩
theorem in_m (F : Ft) : F.m ∈ F.all := by simp [Ft.all]
theorem in_n (F : Ft) : F.n ∈ F.all := by simp [Ft.all]
theorem in_c (F : Ft) : F.c ∈ F.all := by simp [Ft.all]
theorem in_k (F : Ft) : F.k ∈ F.all := by simp [Ft.all]
theorem in_i (F : Ft) : F.i ∈ F.all := by simp [Ft.all]
theorem in_o (F : Ft) : F.o ∈ F.all := by simp [Ft.all]
/-- the seven stand apart -/
structure FtApart (F : Ft) : Prop where
  mn : F.m ≠ F.n
  mc : F.m ≠ F.c
  m_k : F.m ≠ F.k
  mp : F.m ≠ F.p
  mi : F.m ≠ F.i
  mo : F.m ≠ F.o
  nc : F.n ≠ F.c
  nk : F.n ≠ F.k
  np : F.n ≠ F.p
  ni : F.n ≠ F.i
  no : F.n ≠ F.o
  ck : F.c ≠ F.k
  cp : F.c ≠ F.p
  ci : F.c ≠ F.i
  co : F.c ≠ F.o
  kp : F.k ≠ F.p
  ki : F.k ≠ F.i
  ko : F.k ≠ F.o
  pi : F.p ≠ F.i
  po : F.p ≠ F.o
  io : F.i ≠ F.o
theorem apart_of {F : Ft} (h : F.all.Nodup) : FtApart F := by
  simp only [Ft.all, List.nodup_cons, List.mem_cons, List.not_mem_nil, or_false, not_or, List.nodup_nil, and_true, not_false_eq_true] at h
  obtain ⟨⟨a1, a2, a3, a4, a5, a6⟩, ⟨b1, b2, b3, b4, b5⟩, ⟨c1, c2, c3, c4⟩, ⟨d1, d2, d3⟩, ⟨e1, e2⟩, f1⟩ := h
  exact ⟨a1, a2, a3, a4, a5, a6, b1, b2, b3, b4, b5, c1, c2, c3, c4, d1, d2, d3, e1, e2, f1⟩
theorem FtApart.nd {F : Ft} (h : FtApart F) : F.all.Nodup := by
  simp only [Ft.all, List.nodup_cons, List.mem_cons, List.not_mem_nil, or_false, not_or, List.nodup_nil, and_true, not_false_eq_true]
  exact ⟨⟨h.mn, h.mc, h.m_k, h.mp, h.mi, h.mo⟩, ⟨h.nc, h.nk, h.np, h.ni, h.no⟩, ⟨h.ck, h.cp, h.ci, h.co⟩, ⟨h.kp, h.ki, h.ko⟩, ⟨h.pi, h.po⟩, h.io⟩
theorem MAt.setN {H : Hp} {F : Ft} {m : M} (h : MAt H F m) (g : Nm) : MAt (upd H F.n (.dK (nkv g))) F { m with names := g } := by
  have a := apart_of h.nd
  exact ⟨by rw [upd_ne a.mn]; exact h.md, upd_same, by rw [upd_ne a.nc.symm]; exact h.cl, by rw [upd_ne a.nk.symm]; exact h.kp, by rw [upd_ne a.np.symm]; exact h.pl, by rw [upd_ne a.ni.symm]; exact h.inp, by rw [upd_ne a.no.symm]; exact h.out, h.nd⟩
theorem MAt.setC {H : Hp} {F : Ft} {m : M} (h : MAt H F m) (c : List Int) : MAt (upd H F.c (.lst (c.map V.int))) F { m with cells := c } := by
  have a := apart_of h.nd
  exact ⟨by rw [upd_ne a.mc]; exact h.md, by rw [upd_ne a.nc]; exact h.nm, upd_same, by rw [upd_ne a.ck.symm]; exact h.kp, by rw [upd_ne a.cp.symm]; exact h.pl, by rw [upd_ne a.ci.symm]; exact h.inp, by rw [upd_ne a.co.symm]; exact h.out, h.nd⟩
theorem MAt.setK {H : Hp} {F : Ft} {m : M} (h : MAt H F m) (c : List Int) : MAt (upd H F.k (.lst (c.map V.int))) F { m with kept := c } := by
  have a := apart_of h.nd
  exact ⟨by rw [upd_ne a.m_k]; exact h.md, by rw [upd_ne a.nk]; exact h.nm, by rw [upd_ne a.ck]; exact h.cl, upd_same, by rw [upd_ne a.kp.symm]; exact h.pl, by rw [upd_ne a.ki.symm]; exact h.inp, by rw [upd_ne a.ko.symm]; exact h.out, h.nd⟩
theorem MAt.setI {H : Hp} {F : Ft} {m : M} (h : MAt H F m) (c : List Int) : MAt (upd H F.i (.lst (c.map V.int))) F { m with inputs := c } := by
  have a := apart_of h.nd
  exact ⟨by rw [upd_ne a.mi]; exact h.md, by rw [upd_ne a.ni]; exact h.nm, by rw [upd_ne a.ci]; exact h.cl, by rw [upd_ne a.ki]; exact h.kp, by rw [upd_ne a.pi]; exact h.pl, upd_same, by rw [upd_ne a.io.symm]; exact h.out, h.nd⟩
theorem MAt.setO {H : Hp} {F : Ft} {m : M} (h : MAt H F m) (c : List Int) : MAt (upd H F.o (.lst (c.map V.int))) F { m with outs := c } := by
  have a := apart_of h.nd
  exact ⟨by rw [upd_ne a.mo]; exact h.md, by rw [upd_ne a.no]; exact h.nm, by rw [upd_ne a.co]; exact h.cl, by rw [upd_ne a.ko]; exact h.kp, by rw [upd_ne a.po]; exact h.pl, by rw [upd_ne a.io]; exact h.inp, upd_same, h.nd⟩

/-! ### dicts written out -/
theorem merge_app : ∀ (more acc : List (Key × V)), ((acc ++ more).map (·.1)).Nodup → mergeK acc more = acc ++ more
  | [], acc, _ => by
    rw [List.append_nil]
    rfl
  | (k, v) :: r, acc, h => by
    have h' : ((acc ++ [(k, v)] ++ r).map (·.1)).Nodup := by
      rw [List.append_assoc]
      exact h
    have no : valV acc k = none := by
      cases e : valV acc k with
      | none => rfl
      | some u =>
        have i := valV_in e
        rw [List.map_append, List.map_cons] at h
        have d := (List.nodup_append.mp h).2.2 k i k List.mem_cons_self
        exact absurd rfl d
    show mergeK (putK acc k v) r = acc ++ (k, v) :: r
    rw [putK_new v no, merge_app r _ h', List.append_assoc]
    rfl
theorem merge_nd {kvs : List (Key × V)} (h : (kvs.map (·.1)).Nodup) : mergeK [] kvs = kvs := merge_app kvs [] h
theorem mem_keys {ks : List Str} {g : Str → V} {x : Str} (h : x ∈ ks) : ((ks.map fun y => ((Sum.inr y : Key), g y)).any fun kv => decide (kv.1 = Sum.inr x)) = true := by
  rw [List.any_eq_true]
  exact ⟨_, List.mem_map.mpr ⟨x, h, rfl⟩, decide_eq_true rfl⟩
theorem put_nkv {f : Nm} {x : Str} {v : Int} (h : x ∈ keys) : putK (nkv f) (Sum.inr x) (.int v) = nkv (put f x v) := by
  unfold putK nkv
  rw [if_pos (mem_keys (g := fun y => V.int (f y)) h), List.map_map]
  apply List.map_congr_left
  intro y _
  show (if (Sum.inr y : Key) = Sum.inr x then ((Sum.inr y : Key), V.int v) else (Sum.inr y, V.int (f y))) = (Sum.inr y, V.int (if y = x then v else f y))
  by_cases e : y = x
  · rw [if_pos (by rw [e]), if_pos e]
  · rw [if_neg (fun z => e (Sum.inr.inj z)), if_neg e]
theorem nkv_len (f : Nm) : (nkv f).length < sizeLine := by
  show 6 < sizeLine
  decide
theorem val_gen {g : Str → V} {x : Str} : ∀ {ks : List Str}, x ∈ ks → valV (ks.map fun y => ((Sum.inr y : Key), g y)) (Sum.inr x) = some (g x)
  | [], h => by cases h
  | y :: r, h => by
    by_cases e : y = x
    · subst e
      exact valV_pos rfl
    · rw [List.map_cons, valV_neg (fun q => e (Sum.inr.inj q))]
      exact val_gen ((List.mem_cons.mp h).resolve_left fun q => e q.symm)
theorem mkv_nd (F : Ft) : ((mkv F).map (·.1)).Nodup := by
  show ([Sum.inr "names", Sum.inr "cells", Sum.inr "kept", Sum.inr "places", Sum.inr "inputs", Sum.inr "outs"] : List Key).Nodup
  decide +kernel
theorem nc_ : ¬ (Sum.inr "names" : Key) = (Sum.inr "cells" : Key) := by decide +kernel
theorem nk_ : ¬ (Sum.inr "names" : Key) = (Sum.inr "kept" : Key) := by decide +kernel
theorem np_ : ¬ (Sum.inr "names" : Key) = (Sum.inr "places" : Key) := by decide +kernel
theorem ni_ : ¬ (Sum.inr "names" : Key) = (Sum.inr "inputs" : Key) := by decide +kernel
theorem no_ : ¬ (Sum.inr "names" : Key) = (Sum.inr "outs" : Key) := by decide +kernel
theorem ck_ : ¬ (Sum.inr "cells" : Key) = (Sum.inr "kept" : Key) := by decide +kernel
theorem cp_ : ¬ (Sum.inr "cells" : Key) = (Sum.inr "places" : Key) := by decide +kernel
theorem ci_ : ¬ (Sum.inr "cells" : Key) = (Sum.inr "inputs" : Key) := by decide +kernel
theorem co_ : ¬ (Sum.inr "cells" : Key) = (Sum.inr "outs" : Key) := by decide +kernel
theorem kp_ : ¬ (Sum.inr "kept" : Key) = (Sum.inr "places" : Key) := by decide +kernel
theorem ki_ : ¬ (Sum.inr "kept" : Key) = (Sum.inr "inputs" : Key) := by decide +kernel
theorem ko_ : ¬ (Sum.inr "kept" : Key) = (Sum.inr "outs" : Key) := by decide +kernel
theorem pi_ : ¬ (Sum.inr "places" : Key) = (Sum.inr "inputs" : Key) := by decide +kernel
theorem po_ : ¬ (Sum.inr "places" : Key) = (Sum.inr "outs" : Key) := by decide +kernel
theorem io_ : ¬ (Sum.inr "inputs" : Key) = (Sum.inr "outs" : Key) := by decide +kernel
theorem mv_n (F : Ft) : valV (mkv F) (Sum.inr "names") = some (.ref F.n) := valV_pos rfl
theorem mv_c (F : Ft) : valV (mkv F) (Sum.inr "cells") = some (.ref F.c) := by
  unfold mkv
  rw [valV_neg nc_]
  exact valV_pos rfl
theorem mv_k (F : Ft) : valV (mkv F) (Sum.inr "kept") = some (.ref F.k) := by
  unfold mkv
  rw [valV_neg nk_, valV_neg ck_]
  exact valV_pos rfl
theorem mv_p (F : Ft) : valV (mkv F) (Sum.inr "places") = some (.ref F.p) := by
  unfold mkv
  rw [valV_neg np_, valV_neg cp_, valV_neg kp_]
  exact valV_pos rfl
theorem mv_i (F : Ft) : valV (mkv F) (Sum.inr "inputs") = some (.ref F.i) := by
  unfold mkv
  rw [valV_neg ni_, valV_neg ci_, valV_neg ki_, valV_neg pi_]
  exact valV_pos rfl
theorem mv_o (F : Ft) : valV (mkv F) (Sum.inr "outs") = some (.ref F.o) := by
  unfold mkv
  rw [valV_neg no_, valV_neg co_, valV_neg ko_, valV_neg po_, valV_neg io_]
  exact valV_pos rfl
/-- what the machine's dict has at a key -/
theorem MAt.get {H : Hp} {F : Ft} {m : M} (h : MAt H F m) {x : Str} {v : V} (e : valV (mkv F) (Sum.inr x) = some v) : DGet H F.m (.str x) (some v) := .inl ⟨_, Sum.inr x, .inl h.md, rfl, e.symm⟩
theorem MAt.name {H : Hp} {F : Ft} {m : M} (h : MAt H F m) {x : Str} (hx : x ∈ keys) : DGet H F.n (.str x) (some (.int (m.names x))) := .inl ⟨_, Sum.inr x, .inl h.nm, rfl, (val_nkv hx).symm⟩
theorem MAt.putN {H : Hp} {F : Ft} {m : M} (h : MAt H F m) {x : Str} {v : Int} (hx : x ∈ keys) : DPut H F.n (.str x) (.int v) (upd H F.n (.dK (nkv (put m.names x v)))) := by
  have q := DPut.k (k := Sum.inr x) (v := .int v) h.nm (nkv_len _)
  rw [put_nkv hx] at q
  exact q
theorem MAt.kpN {H : Hp} {F : Ft} {m : M} (h : MAt H F m) {o : HO} : Kp F.all H (upd H F.n o) := Kp.set (in_n F) h.nm fun _ z => by cases z
theorem MAt.kpC {H : Hp} {F : Ft} {m : M} (h : MAt H F m) {o : HO} : Kp F.all H (upd H F.c o) := Kp.set (in_c F) h.cl fun _ z => by cases z
theorem MAt.kpK {H : Hp} {F : Ft} {m : M} (h : MAt H F m) {o : HO} : Kp F.all H (upd H F.k o) := Kp.set (in_k F) h.kp fun _ z => by cases z
theorem MAt.kpI {H : Hp} {F : Ft} {m : M} (h : MAt H F m) {o : HO} : Kp F.all H (upd H F.i o) := Kp.set (in_i F) h.inp fun _ z => by cases z
theorem MAt.kpO {H : Hp} {F : Ft} {m : M} (h : MAt H F m) {o : HO} : Kp F.all H (upd H F.o o) := Kp.set (in_o F) h.out fun _ z => by cases z
theorem zero_key : ("zero" : Str) ∈ keys := by decide +kernel
theorem less_key : ("less" : Str) ∈ keys := by decide +kernel
theorem box_key : ∀ r : Nat, r < 4 → bx r ∈ keys := by decide +kernel
/-- an int, or a truth value that int(..) makes one -/
def IntOf (v : V) (i : Int) : Prop := v = .int i ∨ ∃ b, v = .bl b ∧ i = b2 b
def spMarks : Sp := fun vs H Q _ => ∃ (F : Ft) (m : M) (z l : V) (zi li : Int), vs = [.ref F.m, z, l] ∧ IntOf z zi ∧ IntOf l li ∧ MAt H F m ∧ ∀ H', Kp F.all H H' → MAt H' F (m.marks zi li) → Q .non H'
theorem call_intI {X : Cx} : CallR X (.type "int") (fun xs H Q => ∃ v i, xs = [v] ∧ IntOf v i ∧ Q (.int i) H) := by
  intro pins s σ H xs us Q I rs h
  obtain ⟨v, i, rfl, h, q⟩ := h
  refine call_int1 pins s σ H _ us Q I rs ?_
  rcases h with rfl | ⟨b, rfl, rfl⟩
  · exact .inl ⟨_, rfl, q⟩
  · exact .inr ⟨_, rfl, q⟩
section
variable {P : Program} {w : World} {K : PySem.W.Frag} {mg : Str → Option Value} {base : Heap} {f : Addr} {fd : FuncData}
theorem ok_marks (F0 : Fun K "_law_marks" "_law_marks" (top 57) f fd) (g : mg "int" = none) : FnOk P w K mg base CX0 1 f fd ["_law_m", "_law_zero", "_law_less"] spMarks := by
  have sc : FnScope ["_law_m", "_law_zero", "_law_less"] ["_law_m", "_law_zero", "_law_less"] (defScope (top 57)) := sc_by (by decide +kernel)
  refine F0.ok sc (fun vs H Q E h => ?_) fun cdv A outer s H vs Q E hr h => ?_
  · obtain ⟨F, m, z, l, zi, li, rfl, _⟩ := h
    rfl
  · obtain ⟨F, m, z, l, zi, li, rfl, iz, il, hm, q⟩ := h
    refine ⟨_, pss_cons (ps_dput (hu_of hr) (pe_dget (hu_of hr) (pv 0) pe_str (fun _ _ => rfl)) pe_str (pe_callTy call_intI (by rfl) g (by decide +kernel) (pa_cons (pv 1) pa_nil)) rfl)
      (pss_one (ps_dput (hu_of hr) (pe_dget (hu_of hr) (pv 0) pe_str (fun _ _ => rfl)) pe_str (pe_callTy call_intI (by rfl) g (by decide +kernel) (pa_cons (pv 2) pa_nil)) rfl)), ?_⟩
    refine ⟨_, rfl, _, _, rfl, iz, _, rfl, F.m, _, rfl, hm.get (mv_n F), F.n, _, rfl, hm.putN zero_key, ?_⟩
    have h1 := hm.setN (put m.names "zero" zi)
    refine ⟨_, rfl, _, _, rfl, il, _, rfl, F.m, _, rfl, h1.get (mv_n F), F.n, _, rfl, h1.putN less_key, ?_⟩
    exact q _ (hm.kpN.trans h1.kpN) (h1.setN (put (put m.names "zero" zi) "less" li))
end
end Rwl

/-! W12: the old machine's row: reckoned, moved, passed, gone, done. -/
namespace Rwl
open PySem PySem.Spec PyProof.Rows L2

def reckW : List Str := ["add", "sub", "test", "testn", "and", "or", "xor"]
def spReck : Sp := fun vs H Q _ => ∃ (F : Ft) (m : M) (wd r : Str) (x y : Int), vs = [.ref F.m, .str wd, .str r, .int x, .int y] ∧ r ∈ keys ∧ wd ∈ reckW ∧ MAt H F m ∧ ∀ H', Kp F.all H H' → MAt H' F (m.reck wd r x y) → Q .non H'
def spMoved : Sp := fun vs H Q _ => ∃ (F : Ft) (m : M) (wd r : Str) (x n : Int), vs = [.ref F.m, .str wd, .str r, .int x, .int n] ∧ r ∈ keys ∧ m.cells.length = 64 ∧ MAt H F m ∧ ∀ H', Kp F.all H H' → MAt H' F (m.moved wd r x n) → Q .non H'
def endV : Option Str → V
  | none => .non
  | some z => .str z
def spPassed : Sp := fun vs H Q _ => ∃ (F : Ft) (m : M) (wd r : Str), vs = [.ref F.m, .str wd, .str r] ∧ r ∈ keys ∧ m.kept.length ≤ 16 ∧ m.outs.length ≤ 16 ∧ MAt H F m ∧ ∀ H', Kp F.all H H' → MAt H' F (m.passed wd r).1 → Q (endV (m.passed wd r).2) H'
def spGone (K : PySem.W.Frag) : Sp := fun vs H Q _ => ∃ (F : Ft) (m : M) (v : V) (k : Nat) (n b : Int), vs = [.ref F.m, v, .int b] ∧ RowAt K H v (.jump k n) ∧ k < 5 ∧ MAt H F m ∧ ∀ H', Same H H' → Q (.int (m.gone (jumpW.getD k "") n b)) H'
abbrev rkN : List Str := ["_law_m", "_law_word", "_law_r", "_law_x", "_law_y", "_law_names"]
abbrev rkps : List Str := ["_law_m", "_law_word", "_law_r", "_law_x", "_law_y"]
theorem dec_int (a b : Int) : decide (V.int a = V.int b) = decide (a = b) := decide_eq_decide.mpr ⟨fun h => V.int.inj h, fun h => by rw [h]⟩
theorem dec_str' (a b : Str) : decide (V.str a = V.str b) = decide (a = b) := decide_eq_decide.mpr ⟨fun h => V.str.inj h, fun h => by rw [h]⟩
theorem intOf_eq (a b : Int) : IntOf (.bl (decide (V.int a = V.int b))) (b2 (decide (a = b))) := .inr ⟨_, rfl, by rw [dec_int]⟩
theorem intOf_bl (c : Bool) : IntOf (.bl c) (b2 c) := .inr ⟨_, rfl, rfl⟩
theorem ite_str {a b : Str} {A B : Prop} (h1 : a = b → A) (h2 : ¬ a = b → B) : if decide (V.str a = V.str b) = true then A else B := by
  rw [dec_str']
  by_cases h : a = b
  · rw [if_pos (decide_eq_true h)]
    exact h1 h
  · rw [if_neg (by rw [decide_eq_false h]; decide)]
    exact h2 h
def bitsKv (x y : Int) : List (Key × V) := [(Sum.inr "and", .int (Builtin.bitAnd x y)), (Sum.inr "or", .int (Builtin.bitOr x y)), (Sum.inr "xor", .int (Builtin.bitXor x y))]
theorem bitsKv_nd (x y : Int) : ((bitsKv x y).map (·.1)).Nodup := by
  show ([Sum.inr "and", Sum.inr "or", Sum.inr "xor"] : List Key).Nodup
  decide +kernel
theorem bits_val (x y : Int) (wd : Str) (h : wd = "and" ∨ wd = "or" ∨ wd = "xor") : valV (mergeK [] (bitsKv x y)) (Sum.inr wd) = some (.int (if wd = "and" then Builtin.bitAnd x y else if wd = "or" then Builtin.bitOr x y else Builtin.bitXor x y)) := by
  have n1 : ¬ (Sum.inr "and" : Key) = (Sum.inr "or" : Key) := by decide +kernel
  have n2 : ¬ (Sum.inr "and" : Key) = (Sum.inr "xor" : Key) := by decide +kernel
  have n3 : ¬ (Sum.inr "or" : Key) = (Sum.inr "xor" : Key) := by decide +kernel
  have m1 : ¬ ("or" : Str) = "and" := by decide +kernel
  have m2 : ¬ ("xor" : Str) = "and" := by decide +kernel
  have m3 : ¬ ("xor" : Str) = "or" := by decide +kernel
  rw [merge_nd (bitsKv_nd x y)]
  unfold bitsKv
  rcases h with rfl | rfl | rfl
  · rw [valV_pos rfl, if_pos rfl]
  · rw [valV_neg n1, valV_pos rfl, if_neg m1, if_pos rfl]
  · rw [valV_neg n2, valV_neg n3, valV_pos rfl, if_neg m2, if_neg m3]
theorem reck_bits : ∀ wd, wd ∈ reckW → ¬ wd = "add" → ¬ wd = "sub" → ¬ (wd = "test" ∨ wd = "testn") → wd = "and" ∨ wd = "or" ∨ wd = "xor" := by decide +kernel
section
variable {P : Program} {w : World} {K : PySem.W.Frag} {mg : Str → Option Value} {base : Heap} {f : Addr} {fd : FuncData}
abbrev mps : List Str := ["_law_m", "_law_zero", "_law_less"]
theorem ok_reck (F0 : Fun K "_law_reckoned" "_law_reckoned" (top 58) f fd) (C : Cal P w K mg base 1 "_law_marks" mps spMarks) : FnOk P w K mg base CX0 2 f fd rkps spReck := by
  have sc : FnScope rkN rkps (defScope (top 58)) := sc_by (by decide +kernel)
  refine F0.ok sc (fun vs H Q E h => ?_) fun cdv A outer s H vs Q E hr h => ?_
  · obtain ⟨F, m, wd, r, x, y, rfl, _⟩ := h
    rfl
  · obtain ⟨F, m, wd, r, x, y, rfl, hk, hw, hm, q⟩ := h
    have hu := hu_of hr
    refine ⟨_, pss_cons (ps_set (i := 5) sc.nd rfl (.inl rfl) (pe_dget hu (pv 0) pe_str (fun _ _ => rfl)))
      (pss_one (ps_if (pt_cmpR op_eq (pv 1) pe_str (nomark _))
        (pss_cons (ps_dput hu (pv 5) (pv 2) (pe_op op_mod (pe_op op_add (pv 3) (pv 4)) pe_int) rfl)
        (pss_one (ps_expr (pe_n C hr rfl (pa_cons (pv 0) (pa_cons (pe_cmpR op_eq (pe_dget hu (pv 5) (pv 2) (fun _ _ => rfl)) pe_int (nomark _)) (pa_cons (pe_cmpR op_gt (pe_op op_add (pv 3) (pv 4)) pe_int (nomark _)) pa_nil)))))))
        (pss_one (ps_if (pt_cmpR op_eq (pv 1) pe_str (nomark _))
          (pss_cons (ps_dput hu (pv 5) (pv 2) (pe_op op_mod (pe_op op_sub (pv 3) (pv 4)) pe_int) rfl)
          (pss_one (ps_expr (pe_n C hr rfl (pa_cons (pv 0) (pa_cons (pe_cmpR op_eq (pe_dget hu (pv 5) (pv 2) (fun _ _ => rfl)) pe_int (nomark _)) (pa_cons (pe_cmpR op_lt (pv 3) (pv 4) (nomark _)) pa_nil)))))))
          (pss_one (ps_if (PW.pt (pw_or (pt_cmpR op_eq (pv 1) pe_str (nomark _)) (pw_or1 (pt_cmpR op_eq (pv 1) pe_str (nomark _)))))
            (pss_one (ps_expr (pe_n C hr rfl (pa_cons (pv 0) (pa_cons (pe_cmpR op_eq (pv 3) (pv 4) (nomark _)) (pa_cons (pe_cmpR op_lt (pv 3) (pv 4) (nomark _)) pa_nil))))))
            (pss_cons (ps_dput hu (pv 5) (pv 2) (pe_dget hu (pe_disp (pps_cons pe_str (pe_op op_and (pv 3) (pv 4)) (pps_cons pe_str (pe_op op_or (pv 3) (pv 4)) (pps_cons pe_str (pe_op op_xor (pv 3) (pv 4)) pps_nil))) (by rfl) (by rfl) (fun z => by cases z) (by decide)) (pv 1) (fun _ _ => rfl)) rfl)
            (pss_one (ps_expr (pe_n C hr rfl (pa_cons (pv 0) (pa_cons (pe_cmpR op_eq (pe_dget hu (pv 5) (pv 2) (fun _ _ => rfl)) pe_int (nomark _)) (pa_cons pe_bl pa_nil))))))))))))), ?_⟩
    refine ⟨_, rfl, F.m, _, rfl, hm.get (mv_n F), ?_⟩
    refine ⟨_, rfl, rfl, _, rfl, ite_str (fun e => ?_) (fun e1 => ?_)⟩
    · have er : m.reck wd r x y = (m.put r ((x + y) % 256)).marks (b2 (decide ((x + y) % 256 = 0))) (b2 (decide (255 < x + y))) := if_pos e
      rw [er] at q
      refine ⟨_, rfl, _, rfl, _, _, rfl, rfl, _, _, rfl, rfl, (by show (0 : Int) < 256; decide), _, rfl, _, rfl, F.n, _, rfl, hm.putN hk, ?_⟩
      have h1 := hm.setN (put m.names r ((x + y) % 256))
      refine ⟨_, rfl, _, rfl, _, rfl, F.n, _, rfl, h1.name hk, rfl, _, rfl, _, rfl, _, _, rfl, rfl, _, _, rfl, rfl, ?_⟩
      refine ⟨F, _, _, _, _, _, rfl, intOf_eq _ _, intOf_bl _, h1, fun H2 k2 m2 => ?_⟩
      have e2 : put m.names r ((x + y) % 256) r = (x + y) % 256 := put_same _ _ _
      have m2' : MAt H2 F (({ m with names := put m.names r ((x + y) % 256) } : M).marks (b2 (decide (put m.names r ((x + y) % 256) r = 0))) (b2 (decide (255 < x + y)))) := m2
      rw [e2] at m2'
      exact q _ (hm.kpN.trans k2) m2'
    · refine ⟨_, rfl, rfl, _, rfl, ite_str (fun e => ?_) (fun e2 => ?_)⟩
      · have er : m.reck wd r x y = (m.put r ((x - y) % 256)).marks (b2 (decide ((x - y) % 256 = 0))) (b2 (decide (x < y))) := by
          unfold M.reck
          rw [if_neg e1, if_pos e]
        rw [er] at q
        refine ⟨_, rfl, _, rfl, _, _, rfl, rfl, _, _, rfl, rfl, (by show (0 : Int) < 256; decide), _, rfl, _, rfl, F.n, _, rfl, hm.putN hk, ?_⟩
        have h1 := hm.setN (put m.names r ((x - y) % 256))
        refine ⟨_, rfl, _, rfl, _, rfl, F.n, _, rfl, h1.name hk, rfl, _, rfl, _, rfl, _, _, rfl, rfl, ?_⟩
        refine ⟨F, _, _, _, _, _, rfl, intOf_eq _ _, intOf_bl _, h1, fun H2 k2 m2 => ?_⟩
        have e2 : put m.names r ((x - y) % 256) r = (x - y) % 256 := put_same _ _ _
        have m2' : MAt H2 F (({ m with names := put m.names r ((x - y) % 256) } : M).marks (b2 (decide (put m.names r ((x - y) % 256) r = 0))) (b2 (decide (x < y)))) := m2
        rw [e2] at m2'
        exact q _ (hm.kpN.trans k2) m2'
      · have tst : (wd = "test" ∨ wd = "testn") → tDrop (tN spMarks (tCons (tVar 0) (tCons (tOp rEq (tVar 3) (tVar 4)) (tCons (tOp (rI0 fun i j => .bl (decide (i < j))) (tVar 3) (tVar 4)) tNil))))
            { nx := fun _ H' => Q .non H', rt := Q } [some (.ref F.m), some (.str wd), some (.str r), some (.int x), some (.int y), some (.ref F.n)] H := by
          intro e
          have er : m.reck wd r x y = m.marks (b2 (decide (x = y))) (b2 (decide (x < y))) := by
            unfold M.reck
            rw [if_neg e1, if_neg e2, if_pos e]
          rw [er] at q
          refine ⟨_, rfl, _, rfl, _, rfl, rfl, _, rfl, _, rfl, _, _, rfl, rfl, ?_⟩
          exact ⟨F, m, _, _, _, _, rfl, intOf_eq _ _, intOf_bl _, hm, fun H2 k2 m2 => q _ k2 m2⟩
        refine ⟨_, rfl, rfl, _, rfl, ite_str (fun e => iteT (tst (.inl e))) (fun e3 => ?_)⟩
        refine ⟨_, rfl, rfl, _, rfl, ite_str (fun e => tst (.inr e)) (fun e4 => ?_)⟩
        have eb := reck_bits wd hw e1 e2 (fun z => z.elim e3 e4)
        have er : m.reck wd r x y = (m.put r (if wd = "and" then Builtin.bitAnd x y else if wd = "or" then Builtin.bitOr x y else Builtin.bitXor x y)).marks (b2 (decide ((if wd = "and" then Builtin.bitAnd x y else if wd = "or" then Builtin.bitOr x y else Builtin.bitXor x y) = 0))) 0 := by
          unfold M.reck
          rw [if_neg e1, if_neg e2, if_neg (fun z => z.elim e3 e4)]
        rw [er] at q
        have ev := bits_val x y wd eb
        generalize (if wd = "and" then Builtin.bitAnd x y else if wd = "or" then Builtin.bitOr x y else Builtin.bitXor x y) = z at q ev
        refine fun d nd => ⟨_, rfl, _, rfl, _, _, rfl, rfl, _, rfl, _, rfl, _, _, rfl, rfl, _, rfl, _, rfl, _, _, rfl, rfl, upd_same, bitsKv x y, rfl, (by show 3 ≤ 15; decide), ?_⟩
        refine ⟨_, rfl, d, _, rfl, .inl ⟨_, Sum.inr wd, .inl upd_same, rfl, ev.symm⟩, ?_⟩
        have s0 : Same H (upd (upd H d (.dK [])) d (.dK (mergeK [] (bitsKv x y)))) := by
          rw [upd_upd]
          exact new_same nd
        have hm0 := hm.same s0
        refine ⟨_, rfl, _, rfl, F.n, _, rfl, hm0.putN hk, ?_⟩
        have h1 := hm0.setN (put m.names r z)
        refine ⟨_, rfl, _, rfl, _, rfl, F.n, _, rfl, h1.name hk, rfl, ?_⟩
        refine ⟨F, _, _, _, _, 0, rfl, intOf_eq _ _, intOf_bl false, h1, fun H2 k2 m2 => ?_⟩
        have e5 : put m.names r z r = z := put_same _ _ _
        have m2' : MAt H2 F (({ m with names := put m.names r z } : M).marks (b2 (decide (put m.names r z r = 0))) 0) := m2
        rw [e5] at m2'
        exact q _ ((Kp.of s0).trans (hm0.kpN.trans k2)) m2'
end
end Rwl

/-! W13: moved, passed. -/
namespace Rwl
open PySem PySem.Spec PyProof.Rows L2

theorem mod64_ix {c : List Int} (h : c.length = 64) (x : Int) : ixN (c.map V.int).length (x % 64) = some (x % 64).toNat := by
  have h0 : 0 ≤ x % 64 := Int.emod_nonneg _ (by decide)
  have h1 : x % 64 < 64 := Int.emod_lt_of_pos _ (by decide)
  rw [List.length_map, h]
  unfold ixN
  rw [if_pos h0, if_pos (show x % 64 < (64 : Nat) from by omega)]
theorem set_ints (c : List Int) (j : Nat) (v : Int) : (c.map V.int).set j (.int v) = (c.set j v).map V.int := (List.map_set).symm
theorem dp_ints {K : PySem.W.Frag} {H : Hp} : ∀ is : List Int, DpAll K H (is.map V.int) (is.map PyData.int)
  | [] => .nil
  | _ :: r => .cons (.int _) (dp_ints r)
theorem eqv_nil : ∀ is : List Int, PyData.eqv (.list (is.map PyData.int)) (.list []) = decide (is = [])
  | [] => rfl
  | _ :: _ => rfl
theorem eqv_shaped (is : List Int) : SeqAt.shaped (.list (is.map PyData.int)) = true := PySem.W.ke_shaped_ints is
section
variable {P : Program} {w : World} {K : PySem.W.Frag} {mg : Str → Option Value} {base : Heap} {f : Addr} {fd : FuncData}
abbrev mvps : List Str := ["_law_m", "_law_word", "_law_r", "_law_x", "_law_n"]
theorem ok_moved (F0 : Fun K "_law_moved" "_law_moved" (top 59) f fd) : FnOk P w K mg base CX0 1 f fd mvps spMoved := by
  have sc : FnScope mvps mvps (defScope (top 59)) := sc_by (by decide +kernel)
  refine F0.ok sc (fun vs H Q E h => ?_) fun cdv A outer s H vs Q E hr h => ?_
  · obtain ⟨F, m, wd, r, x, n, rfl, _⟩ := h
    rfl
  · obtain ⟨F, m, wd, r, x, n, rfl, hk, hc, hm, q⟩ := h
    have hu := hu_of hr
    refine ⟨_, pss_one (ps_if (PW.pt (pw_or (pt_cmpR op_eq (pv 1) pe_str (nomark _)) (pw_or1 (pt_cmpR op_eq (pv 1) pe_str (nomark _)))))
      (pss_one (ps_dput hu (pe_dget hu (pv 0) pe_str (fun _ _ => rfl)) (pv 2) (pv 4) rfl))
      (pss_one (ps_if (PW.pt (pw_or (pt_cmpR op_eq (pv 1) pe_str (nomark _)) (pw_or1 (pt_cmpR op_eq (pv 1) pe_str (nomark _)))))
        (pss_one (ps_dput hu (pe_dget hu (pv 0) pe_str (fun _ _ => rfl)) (pv 2) (pe_ix ix_list (pe_dget hu (pv 0) pe_str (fun _ _ => rfl)) (pe_op op_mod (pv 4) pe_int) (fun _ _ => rfl)) rfl))
        (pss_one (ps_if (pt_cmpR op_eq (pv 1) pe_str (nomark _))
          (pss_one (ps_asg (pv 4) (pg_sub (pe_dget hu (pv 0) pe_str (fun _ _ => rfl)) (pe_op op_mod (pv 3) pe_int) set_list)))
          (pss_one (ps_asg (pv 3) (pg_sub (pe_dget hu (pv 0) pe_str (fun _ _ => rfl)) (pe_op op_mod (pv 4) pe_int) set_list)))))))), ?_⟩
    have first : (wd = "set" ∨ wd = "copy") → sDPut (tDGet (tVar 0) (tC (.str "names"))) (tVar 2) (tVar 4) { nx := fun _ H' => Q .non H', rt := Q } [some (.ref F.m), some (.str wd), some (.str r), some (.int x), some (.int n)] H := by
      intro e
      have er : m.moved wd r x n = m.put r n := if_pos e
      rw [er] at q
      exact ⟨_, rfl, _, rfl, F.m, _, rfl, hm.get (mv_n F), _, rfl, F.n, _, rfl, hm.putN hk, q _ hm.kpN (hm.setN _)⟩
    have second : ¬ (wd = "set" ∨ wd = "copy") → (wd = "load" ∨ wd = "loadn") → sDPut (tDGet (tVar 0) (tC (.str "names"))) (tVar 2) (tOp (rIxL K) (tDGet (tVar 0) (tC (.str "cells"))) (tOp (rI (fun _ j => 0 < j) fun i j => .int (i % j)) (tVar 4) (tC (.int 64))))
        { nx := fun _ H' => Q .non H', rt := Q } [some (.ref F.m), some (.str wd), some (.str r), some (.int x), some (.int n)] H := by
      intro e1 e
      have er : m.moved wd r x n = m.put r (m.cells.getD (n % 64).toNat 0) := by
        unfold M.moved
        rw [if_neg e1, if_pos e]
      rw [er] at q
      exact ⟨_, rfl, F.m, _, rfl, hm.get (mv_c F), _, rfl, _, _, rfl, rfl, (by show (0 : Int) < 64; decide), F.c, _, _, _, rfl, rfl, SqL.of hm.cl, cell_at hc n, _, rfl, F.m, _, rfl, hm.get (mv_n F), _, rfl, F.n, _, rfl, hm.putN hk, q _ hm.kpN (hm.setN _)⟩
    refine ⟨_, rfl, rfl, _, rfl, ite_str (fun e => iteT (first (.inl e))) (fun e1 => ?_)⟩
    refine ⟨_, rfl, rfl, _, rfl, ite_str (fun e => first (.inr e)) (fun e2 => ?_)⟩
    have e12 : ¬ (wd = "set" ∨ wd = "copy") := fun z => z.elim e1 e2
    refine ⟨_, rfl, rfl, _, rfl, ite_str (fun e => iteT (second e12 (.inl e))) (fun e3 => ?_)⟩
    refine ⟨_, rfl, rfl, _, rfl, ite_str (fun e => second e12 (.inr e)) (fun e4 => ?_)⟩
    have e34 : ¬ (wd = "load" ∨ wd = "loadn") := fun z => z.elim e3 e4
    refine ⟨_, rfl, rfl, _, rfl, ite_str (fun e => ?_) (fun e => ?_)⟩
    · have er : m.moved wd r x n = m.cellPut x n := by
        unfold M.moved
        rw [if_neg e12, if_neg e34, if_pos e]
      rw [er] at q
      refine ⟨_, rfl, _, rfl, F.m, _, rfl, hm.get (mv_c F), _, rfl, _, _, rfl, rfl, (by show (0 : Int) < 64; decide), F.c, _, _, _, rfl, rfl, hm.cl, mod64_ix hc x, ?_⟩
      rw [set_ints]
      exact q _ hm.kpC (hm.setC _)
    · have er : m.moved wd r x n = m.cellPut n x := by
        unfold M.moved
        rw [if_neg e12, if_neg e34, if_neg e]
      rw [er] at q
      refine ⟨_, rfl, _, rfl, F.m, _, rfl, hm.get (mv_c F), _, rfl, _, _, rfl, rfl, (by show (0 : Int) < 64; decide), F.c, _, _, _, rfl, rfl, hm.cl, mod64_ix hc n, ?_⟩
      rw [set_ints]
      exact q _ hm.kpC (hm.setC _)
abbrev paps : List Str := ["_law_m", "_law_word", "_law_r"]
theorem ok_passed (F0 : Fun K "_law_passed" "_law_passed" (top 60) f fd) (gl : mg "len" = none) : FnOk P w K mg base CX0 1 f fd paps spPassed := by
  have sc : FnScope paps paps (defScope (top 60)) := sc_by (by decide +kernel)
  refine F0.ok sc (fun vs H Q E h => ?_) fun cdv A outer s H vs Q E hr h => ?_
  · obtain ⟨F, m, wd, r, rfl, _⟩ := h
    rfl
  · obtain ⟨F, m, wd, r, rfl, hk, hkl, hol, hm, q⟩ := h
    have hu := hu_of hr
    refine ⟨_, pss_cons (ps_if (pt_cmpR op_eq (pv 1) pe_str (nomark _))
      (pss_one (ps_dput hu (pe_dget hu (pv 0) pe_str (fun _ _ => rfl)) (pv 2) (pe_ifExp (pt_cmpR (op_neD hr.units) (pe_dget hu (pv 0) pe_str (fun _ _ => rfl)) (pe_lst pa_nil) (nomark _))
        (pe_bm PySem.F.plainAttrs_list PySem.F.slot_list_pop PySem.F.type_list_pop mt_popAt (pe_dget hu (pv 0) pe_str (fun _ _ => rfl)) (pa_cons pe_int pa_nil)) pe_int) rfl))
      (pss_one (ps_if (pt_cmpR op_eq (pv 1) pe_str (nomark _))
        (pss_one (ps_expr (pe_bm PySem.F.plainAttrs_list PySem.F.slot_list_append PySem.F.type_list_append mt_append (pe_dget hu (pv 0) pe_str (fun _ _ => rfl)) (pa_cons (pe_dget hu (pe_dget hu (pv 0) pe_str (fun _ _ => rfl)) (pv 2) (fun _ _ => rfl)) pa_nil))))
        (pss_one (ps_if (pt_cmpR op_eq (pv 1) pe_str (nomark _))
          (pss_cons (ps_if (pt_cmpR op_eq (pe_callB call_len_seq (by rfl) gl PySem.boot_len (pa_cons (pe_dget hu (pv 0) pe_str (fun _ _ => rfl)) pa_nil)) pe_int (nomark _)) (pss_one (ps_ret pe_str)) pss_nil)
          (pss_one (ps_expr (pe_bm PySem.F.plainAttrs_list PySem.F.slot_list_append PySem.F.type_list_append mt_append (pe_dget hu (pv 0) pe_str (fun _ _ => rfl)) (pa_cons (pe_dget hu (pe_dget hu (pv 0) pe_str (fun _ _ => rfl)) (pv 2) (fun _ _ => rfl)) pa_nil)))))
          (pss_cons (ps_if (pt_cmpR (op_eqD hr.units) (pe_dget hu (pv 0) pe_str (fun _ _ => rfl)) (pe_lst pa_nil) (nomark _)) (pss_one (ps_ret pe_str)) pss_nil)
          (pss_one (ps_dput hu (pe_dget hu (pv 0) pe_str (fun _ _ => rfl)) (pv 2) (pe_bm0 PySem.F.plainAttrs_list PySem.F.slot_list_pop PySem.F.type_list_pop mt_pop (pe_dget hu (pv 0) pe_str (fun _ _ => rfl))) rfl))))))))
      (pss_one (ps_ret pe_non)), ?_⟩
    refine ⟨_, rfl, rfl, _, rfl, ite_str (fun e => ?_) (fun e1 => ?_)⟩
    · have er : m.passed wd r = (m.inn r, none) := if_pos e
      rw [er] at q
      refine ⟨_, rfl, F.m, _, rfl, hm.get (mv_i F), Nat.zero_le _, fun p hp => ?_⟩
      have s0 := new_same (o := .lst []) hp
      have h0 := hm.same s0
      refine ⟨_, _, .lst (SqL.of h0.inp) (dp_ints m.inputs), .lst (SqL.of (xs := []) upd_same) .nil, eqv_shaped _, eqv_shaped [], _, rfl, ?_⟩
      by_cases hi : m.inputs = []
      · refine ifF (by rw [eqv_nil, decide_eq_true hi]; rfl) ?_
        refine ⟨_, rfl, F.m, _, rfl, h0.get (mv_n F), _, rfl, F.n, _, rfl, h0.putN hk, ?_⟩
        have h1 := (h0.setN (put m.names r 0)).setI ([] : List Int)
        have e2 : m.inn r = { m with names := put m.names r 0, inputs := [] } := by
          unfold M.inn
          rw [hi]
          rfl
        rw [e2] at q
        refine q _ ((Kp.of s0).trans h0.kpN) ?_
        have h3 := h0.setN (put m.names r 0)
        exact ⟨h3.md, h3.nm, h3.cl, h3.kp, h3.pl, by rw [← hi]; exact h3.inp, h3.out, h3.nd⟩
      · refine ifT (by rw [eqv_nil, decide_eq_false hi]; rfl) ?_
        obtain ⟨i0, ir, ei⟩ : ∃ i0 ir, m.inputs = i0 :: ir := by
          cases z : m.inputs with
          | nil => exact absurd z hi
          | cons i0 ir => exact ⟨i0, ir, rfl⟩
        have hi0 := h0.inp
        rw [ei] at hi0
        refine ⟨_, rfl, F.m, _, rfl, h0.get (mv_i F), .inl ⟨rfl, _, SqL.of hi0⟩, F.i, _, 0, 0, _, rfl, rfl, hi0, by decide, by decide, ?_, rfl, ?_⟩
        · show seqIndex? 0 (ir.map V.int).length.succ = some 0
          unfold seqIndex?
          simp
        have h1 := h0.setI ir
        refine ⟨_, rfl, F.m, _, rfl, h1.get (mv_n F), _, rfl, F.n, _, rfl, h1.putN hk, ?_⟩
        have e2 : m.inn r = { m with names := put m.names r i0, inputs := ir } := by
          unfold M.inn
          rw [ei]
          rfl
        rw [e2] at q
        exact q _ ((Kp.of s0).trans (h0.kpI.trans h1.kpN)) (h1.setN (put m.names r i0))
    · refine ⟨_, rfl, rfl, _, rfl, ite_str (fun e => ?_) (fun e2 => ?_)⟩
      · have er : m.passed wd r = (m.tell (m.names r), none) := by
          unfold M.passed
          rw [if_neg e1, if_pos e]
        rw [er] at q
        refine ⟨_, rfl, F.m, _, rfl, hm.get (mv_o F), .inl ⟨rfl, _, SqL.of hm.out⟩, _, rfl, F.m, _, rfl, hm.get (mv_n F), _, rfl, F.n, _, rfl, hm.name hk, F.o, _, _, rfl, rfl, hm.out, by rw [List.length_map]; exact Nat.lt_of_le_of_lt hol (by decide), ?_⟩
        have h1 := hm.setO (m.outs ++ [m.names r])
        rw [List.map_append] at h1
        exact q _ hm.kpO h1
      · refine ⟨_, rfl, rfl, _, rfl, ite_str (fun e => ?_) (fun e3 => ?_)⟩
        · have er : m.passed wd r = (if m.kept.length = 16 then (m, some deepS) else (m.keep (m.names r), none)) := by
            unfold M.passed
            rw [if_neg e1, if_neg e2, if_pos e]
          rw [er] at q
          refine ⟨_, rfl, F.m, _, rfl, hm.get (mv_k F), F.k, _, rfl, .inl (SqL.of hm.kp), rfl, _, rfl, ?_⟩
          by_cases hl : m.kept.length = 16
          · rw [if_pos hl] at q
            refine ifT (dec_int_eq (by rw [List.length_map, hl]; rfl)) ?_
            exact q _ (Kp.refl _ _) hm
          · rw [if_neg hl] at q
            refine ifF (dec_int_ne (by rw [List.length_map]; omega)) ?_
            refine ⟨_, rfl, F.m, _, rfl, hm.get (mv_k F), .inl ⟨rfl, _, SqL.of hm.kp⟩, _, rfl, F.m, _, rfl, hm.get (mv_n F), _, rfl, F.n, _, rfl, hm.name hk, F.k, _, _, rfl, rfl, hm.kp, by rw [List.length_map]; exact Nat.lt_of_le_of_lt hkl (by decide), ?_⟩
            have h1 := hm.setK (m.kept ++ [m.names r])
            rw [List.map_append] at h1
            exact q _ hm.kpK h1
        · have er : m.passed wd r = (if m.kept = [] then (m, some bareS) else (m.take r, none)) := by
            unfold M.passed
            rw [if_neg e1, if_neg e2, if_neg e3]
          rw [er] at q
          refine ⟨_, rfl, F.m, _, rfl, hm.get (mv_k F), Nat.zero_le _, fun p hp => ?_⟩
          have s0 := new_same (o := .lst []) hp
          have h0 := hm.same s0
          refine ⟨_, _, .lst (SqL.of h0.kp) (dp_ints m.kept), .lst (SqL.of (xs := []) upd_same) .nil, eqv_shaped _, eqv_shaped [], _, rfl, ?_⟩
          by_cases hl : m.kept = []
          · rw [if_pos hl] at q
            refine ifT (by rw [eqv_nil, decide_eq_true hl]) ?_
            exact q _ (Kp.of s0) h0
          · rw [if_neg hl] at q
            refine ifF (by rw [eqv_nil, decide_eq_false hl]) ?_
            have hg : (m.kept.map V.int)[(m.kept.map V.int).length - 1]? = some (.int (m.kept.getLastD 0)) := by
              rw [List.length_map, List.getElem?_map, ← List.getLast?_eq_getElem?, List.getLast?_eq_some_getLast hl, List.getLastD_eq_getLast?, List.getLast?_eq_some_getLast hl]
              rfl
            refine ⟨_, rfl, F.m, _, rfl, h0.get (mv_k F), .inl ⟨rfl, _, SqL.of h0.kp⟩, F.k, _, _, rfl, rfl, h0.kp, hg, ?_⟩
            have h1 := h0.setK m.kept.dropLast
            rw [List.map_dropLast] at h1
            refine ⟨_, rfl, F.m, _, rfl, h1.get (mv_n F), _, rfl, F.n, _, rfl, h1.putN hk, ?_⟩
            exact q _ ((Kp.of s0).trans (h0.kpK.trans h1.kpN)) (h1.setN (put m.names r (m.kept.getLastD 0)))
end
end Rwl

/-! W14: gone, done. -/
namespace Rwl
open PySem PySem.Spec PyProof.Rows L2

def goKv (m : M) : List (Key × V) := [(Sum.inr "go", .int 1), (Sum.inr "zero", .int (m.names "zero")), (Sum.inr "nonzero", .int (1 - m.names "zero")), (Sum.inr "less", .int (m.names "less"))]
theorem goKv_nd (m : M) : ((goKv m).map (·.1)).Nodup := by
  show ([Sum.inr "go", Sum.inr "zero", Sum.inr "nonzero", Sum.inr "less"] : List Key).Nodup
  decide +kernel
theorem go_none (m : M) : valV (goKv m) (Sum.inr "notless") = none := by
  have n1 : ¬ (Sum.inr "go" : Key) = (Sum.inr "notless" : Key) := by decide +kernel
  have n2 : ¬ (Sum.inr "zero" : Key) = (Sum.inr "notless" : Key) := by decide +kernel
  have n3 : ¬ (Sum.inr "nonzero" : Key) = (Sum.inr "notless" : Key) := by decide +kernel
  have n4 : ¬ (Sum.inr "less" : Key) = (Sum.inr "notless" : Key) := by decide +kernel
  unfold goKv
  rw [valV_neg n1, valV_neg n2, valV_neg n3, valV_neg n4]
  rfl
theorem go_val (m : M) (k : Nat) (hk : k < 5) : valV (putK (mergeK [] (goKv m)) (Sum.inr "notless") (.int (1 - m.names "less"))) (Sum.inr (jumpW.getD k "")) = some (.int (m.mark (jumpW.getD k ""))) := by
  have n1 : ¬ (Sum.inr "go" : Key) = (Sum.inr "zero" : Key) := by decide +kernel
  have n2 : ¬ (Sum.inr "go" : Key) = (Sum.inr "nonzero" : Key) := by decide +kernel
  have n3 : ¬ (Sum.inr "zero" : Key) = (Sum.inr "nonzero" : Key) := by decide +kernel
  have n4 : ¬ (Sum.inr "go" : Key) = (Sum.inr "less" : Key) := by decide +kernel
  have n5 : ¬ (Sum.inr "zero" : Key) = (Sum.inr "less" : Key) := by decide +kernel
  have n6 : ¬ (Sum.inr "nonzero" : Key) = (Sum.inr "less" : Key) := by decide +kernel
  have w1 : ¬ ("zero" : Str) = "go" := by decide +kernel
  have w2 : ¬ ("nonzero" : Str) = "go" := by decide +kernel
  have w3 : ¬ ("nonzero" : Str) = "zero" := by decide +kernel
  have w4 : ¬ ("less" : Str) = "go" := by decide +kernel
  have w5 : ¬ ("less" : Str) = "zero" := by decide +kernel
  have w6 : ¬ ("less" : Str) = "nonzero" := by decide +kernel
  have w7 : ¬ ("notless" : Str) = "go" := by decide +kernel
  have w8 : ¬ ("notless" : Str) = "zero" := by decide +kernel
  have w9 : ¬ ("notless" : Str) = "nonzero" := by decide +kernel
  have w0 : ¬ ("notless" : Str) = "less" := by decide +kernel
  have k1 : ¬ (Sum.inr "go" : Key) = (Sum.inr "notless" : Key) := by decide +kernel
  have k2 : ¬ (Sum.inr "zero" : Key) = (Sum.inr "notless" : Key) := by decide +kernel
  have k3 : ¬ (Sum.inr "nonzero" : Key) = (Sum.inr "notless" : Key) := by decide +kernel
  have k4 : ¬ (Sum.inr "less" : Key) = (Sum.inr "notless" : Key) := by decide +kernel
  rw [merge_nd (goKv_nd m), putK_new _ (go_none m)]
  have hc : k = 0 ∨ k = 1 ∨ k = 2 ∨ k = 3 ∨ k = 4 := by omega
  rcases hc with rfl | rfl | rfl | rfl | rfl
  · show valV (goKv m ++ [((Sum.inr "notless" : Key), V.int (1 - m.names "less"))]) (Sum.inr "go" : Key) = some (.int (m.mark "go"))
    unfold goKv M.mark
    rw [List.cons_append, valV_pos rfl, if_pos rfl]
  · show valV (goKv m ++ [((Sum.inr "notless" : Key), V.int (1 - m.names "less"))]) (Sum.inr "zero" : Key) = some (.int (m.mark "zero"))
    unfold goKv M.mark
    rw [List.cons_append, valV_neg n1, List.cons_append, valV_pos rfl, if_neg w1, if_pos rfl]
  · show valV (goKv m ++ [((Sum.inr "notless" : Key), V.int (1 - m.names "less"))]) (Sum.inr "nonzero" : Key) = some (.int (m.mark "nonzero"))
    unfold goKv M.mark
    rw [List.cons_append, valV_neg n2, List.cons_append, valV_neg n3, List.cons_append, valV_pos rfl, if_neg w2, if_neg w3, if_pos rfl]
  · show valV (goKv m ++ [((Sum.inr "notless" : Key), V.int (1 - m.names "less"))]) (Sum.inr "less" : Key) = some (.int (m.mark "less"))
    unfold goKv M.mark
    rw [List.cons_append, valV_neg n4, List.cons_append, valV_neg n5, List.cons_append, valV_neg n6, List.cons_append, valV_pos rfl, if_neg w4, if_neg w5, if_neg w6, if_pos rfl]
  · show valV (goKv m ++ [((Sum.inr "notless" : Key), V.int (1 - m.names "less"))]) (Sum.inr "notless" : Key) = some (.int (m.mark "notless"))
    unfold goKv M.mark
    rw [List.cons_append, valV_neg k1, List.cons_append, valV_neg k2, List.cons_append, valV_neg k3, List.cons_append, valV_neg k4, List.nil_append, valV_pos rfl, if_neg w7, if_neg w8, if_neg w9, if_neg w0]
def doneV (p : M × Option Str × Int) : V := match p.2.1 with
  | some z => .str z
  | none => .int p.2.2
def spDone (K : PySem.W.Frag) : Sp := fun vs H Q _ => ∃ (F : Ft) (m : M) (v : V) (r : Row) (b : Int), vs = [.ref F.m, v, .int b] ∧ RowAt K H v r ∧ r.ok ∧ r.goes ∧ m.cells.length = 64 ∧ m.kept.length ≤ 16 ∧ m.outs.length ≤ 16 ∧ MAt H F m ∧
  ∀ H', Kp F.all H H' → MAt H' F (m.done b r).1 → Q (doneV (m.done b r)) H'
abbrev gops : List Str := ["_law_m", "_law_row", "_law_behind"]
abbrev goN : List Str := ["_law_m", "_law_row", "_law_behind", "_law_word", "_law_names", "_law_mark"]
abbrev doN : List Str := ["_law_m", "_law_row", "_law_behind", "_law_word", "_law_end", "_law_x", "_law_y"]
def goersW : List Str := ["halt", "back", "call", "go", "zero", "nonzero", "less", "notless"]
theorem jump_goers : ∀ k : Nat, k < 5 → jumpW.getD k "" ∈ goersW := by decide +kernel
theorem single_goers : ∀ k : Nat, k < 4 → ¬ singleW.getD k "" ∈ goersW ∧ singleW.getD k "" ∈ singleW := by decide +kernel
theorem numd_goers : ∀ k : Nat, k < 4 → ¬ numdW.getD k "" ∈ goersW ∧ ¬ numdW.getD k "" ∈ singleW ∧ ¬ numdW.getD k "" = "rest" ∧ (¬ numdW.getD k "" ∈ movesW → numdW.getD k "" ∈ reckW) := by decide +kernel
theorem pair_goers : ∀ k : Nat, k < 9 → ¬ pairW.getD k "" ∈ goersW ∧ ¬ pairW.getD k "" ∈ singleW ∧ ¬ pairW.getD k "" = "rest" ∧ (¬ pairW.getD k "" ∈ movesW → pairW.getD k "" ∈ reckW) := by decide +kernel
theorem rest_goers : ¬ aloneW.getD 2 "" ∈ goersW ∧ ¬ aloneW.getD 2 "" ∈ singleW ∧ aloneW.getD 2 "" = "rest" := by decide +kernel
section
variable {P : Program} {w : World} {K : PySem.W.Frag} {mg : Str → Option Value} {base : Heap} {f : Addr} {fd : FuncData}
theorem ok_gone (F0 : Fun K "_law_gone" "_law_gone" (top 61) f fd) : FnOk P w K mg base CX0 1 f fd gops (spGone K) := by
  have sc : FnScope goN gops (defScope (top 61)) := sc_by (by decide +kernel)
  refine F0.ok sc (fun vs H Q E h => ?_) fun cdv A outer s H vs Q E hr h => ?_
  · obtain ⟨F, m, v, k, n, b, rfl, _⟩ := h
    rfl
  · obtain ⟨F, m, v, k, n, b, rfl, ⟨t, rfl, ht⟩, hk, hm, q⟩ := h
    have hu := hu_of hr
    obtain ⟨n1, n2, n3, n4⟩ := jump_ne k hk
    refine ⟨_, pss_cons (ps_set (i := 3) sc.nd rfl (.inl rfl) (pe_ix ix_tup (pv 1) pe_int (fun _ _ => rfl)))
      (pss_cons (ps_if (pt_cmpR op_eq (pv 3) pe_str (nomark _)) pss_never pss_nil)
      (pss_cons (ps_if (pt_cmpR op_eq (pv 3) pe_str (nomark _)) pss_never pss_nil)
      (pss_cons (ps_if (pt_cmpR op_eq (pv 3) pe_str (nomark _)) pss_never pss_nil)
      (pss_cons (ps_set (i := 4) sc.nd rfl (.inl rfl) (pe_dget hu (pv 0) pe_str (fun _ _ => rfl)))
      (pss_cons (ps_set (i := 5) sc.nd rfl (.inl rfl) (pe_disp (pps_cons pe_str pe_int (pps_cons pe_str (pe_dget hu (pv 4) pe_str (fun _ _ => rfl)) (pps_cons pe_str (pe_op op_sub pe_int (pe_dget hu (pv 4) pe_str (fun _ _ => rfl))) (pps_cons pe_str (pe_dget hu (pv 4) pe_str (fun _ _ => rfl)) pps_nil)))) (by rfl) (by rfl) (fun z => by cases z) (by decide)))
      (pss_cons (ps_dput hu (pv 5) pe_str (pe_op op_sub pe_int (pe_dget hu (pv 4) pe_str (fun _ _ => rfl))) rfl)
      (pss_one (ps_ret (pe_ifExp (pt_cmpR op_eq (pe_dget hu (pv 5) (pv 3) (fun _ _ => rfl)) pe_int (nomark _)) (pe_ix ix_tup (pv 1) pe_int (fun _ _ => rfl)) (pv 2)))))))))), ?_⟩
    refine ⟨_, rfl, t, _, 0, _, rfl, rfl, ht.sq, rfl, ?_⟩
    refine ⟨_, rfl, rfl, _, rfl, ifF (dec_str_ne n1) ?_⟩
    refine ⟨_, rfl, rfl, _, rfl, ifF (dec_str_ne n2) ?_⟩
    refine ⟨_, rfl, rfl, _, rfl, ifF (dec_str_ne n3) ?_⟩
    refine ⟨_, rfl, F.m, _, rfl, hm.get (mv_n F), fun d nd => ?_⟩
    have s0 := new_same (o := .dK []) nd
    have h0 := hm.same s0
    refine ⟨_, rfl, F.n, _, rfl, h0.name zero_key, _, rfl, F.n, _, rfl, h0.name zero_key, _, _, rfl, rfl, _, rfl, F.n, _, rfl, h0.name less_key, upd_same, goKv m, rfl, (by show 4 ≤ 15; decide), ?_⟩
    rw [upd_upd]
    have s1 := new_same (o := .dK (mergeK [] (goKv m))) nd
    have h1 := hm.same s1
    have hl : (mergeK [] (goKv m)).length < sizeLine := by
      rw [merge_nd (goKv_nd m)]
      show 4 < sizeLine
      decide
    refine ⟨_, rfl, F.n, _, rfl, h1.name less_key, _, _, rfl, rfl, _, rfl, d, _, rfl, DPut.k (k := Sum.inr "notless") upd_same hl, ?_⟩
    rw [upd_upd]
    have s2 := new_same (o := .dK (putK (mergeK [] (goKv m)) (Sum.inr "notless") (.int (1 - m.names "less")))) nd
    refine ⟨_, rfl, _, rfl, d, _, rfl, .inl ⟨_, Sum.inr _, .inl upd_same, rfl, (go_val m k hk).symm⟩, rfl, _, rfl, ?_⟩
    by_cases e : m.mark (jumpW.getD k "") = 1
    · have eg : m.gone (jumpW.getD k "") n b = n := if_pos e
      rw [eg] at q
      refine ifT (dec_int_eq e) ?_
      exact ⟨_, rfl, t, _, 1, _, rfl, rfl, (ht.mv (Tups.of s2)).sq, rfl, q _ s2⟩
    · have eg : m.gone (jumpW.getD k "") n b = b := if_neg e
      rw [eg] at q
      refine ifF (dec_int_ne e) ?_
      exact ⟨_, rfl, q _ s2⟩
theorem ok_done (F0 : Fun K "_law_done" "_law_done" (top 62) f fd) (Cg : Cal P w K mg base 1 "_law_gone" gops (spGone K)) (Cp : Cal P w K mg base 1 "_law_passed" paps spPassed) (Cm : Cal P w K mg base 1 "_law_moved" mvps spMoved) (Cr : Cal P w K mg base 2 "_law_reckoned" rkps spReck)
    (gi : mg "isinstance" = none) (gs : mg "str" = none) : FnOk P w K mg base CX0 3 f fd gops (spDone K) := by
  have sc : FnScope doN gops (defScope (top 62)) := sc_by (by decide +kernel)
  refine F0.ok sc (fun vs H Q E h => ?_) fun cdv A outer s H vs Q E hr h => ?_
  · obtain ⟨F, m, v, r, b, rfl, _⟩ := h
    rfl
  · obtain ⟨F, m, v, r, b, rfl, ⟨t, rfl, ht⟩, ok, go, hc, hkl, hol, hm, q⟩ := h
    have hu := hu_of hr
    have hr1 : Room 1 _ := hr.mono (by decide)
    refine ⟨_, pss_cons (ps_set (i := 3) sc.nd rfl (.inl rfl) (pe_ix ix_tup (pv 1) pe_int (fun _ _ => rfl)))
      (pss_cons (ps_if (pt_cmpR op_in_seq (pv 3) (pe_lst (pa_cons pe_str (pa_cons pe_str (pa_cons pe_str (pa_cons pe_str (pa_cons pe_str (pa_cons pe_str (pa_cons pe_str (pa_cons pe_str pa_nil))))))))) (by rfl))
        (pss_one (ps_ret (pe_n Cg hr1 rfl (pa_cons (pv 0) (pa_cons (pv 1) (pa_cons (pv 2) pa_nil)))))) pss_nil)
      (pss_cons (ps_if (pt_cmpR op_in_seq (pv 3) (pe_lst (pa_cons pe_str (pa_cons pe_str (pa_cons pe_str (pa_cons pe_str pa_nil))))) (by rfl))
        (pss_cons (ps_set (i := 4) sc.nd rfl (.inl rfl) (pe_n Cp hr1 rfl (pa_cons (pv 0) (pa_cons (pv 3) (pa_cons (pe_ix ix_tup (pv 1) pe_int (fun _ _ => rfl)) pa_nil)))))
        (pss_one (ps_ret (pe_ifExp (pt_cmpR op_isN (pv 4) pe_non (nomark _)) (pv 2) (pv 4))))) pss_nil)
      (pss_cons (ps_if (pt_cmpR op_ne (pv 3) pe_str (nomark _))
        (pss_cons (ps_set (i := 5) sc.nd rfl (.inl rfl) (pe_dget hu (pe_dget hu (pv 0) pe_str (fun _ _ => rfl)) (pe_ix ix_tup (pv 1) pe_int (fun _ _ => rfl)) (fun _ _ => rfl)))
        (pss_cons (ps_set (i := 6) sc.nd rfl (.inl rfl) (pe_ifExp (pt_val (pe_callB call_isi (by rfl) gi (by decide +kernel) (pa_cons (pe_ix ix_tup (pv 1) pe_int (fun _ _ => rfl)) (pa_cons (pe_bltn (v := .ty "str") (by rfl) gs (by decide +kernel) rfl) pa_nil))))
          (pe_dget hu (pe_dget hu (pv 0) pe_str (fun _ _ => rfl)) (pe_ix ix_tup (pv 1) pe_int (fun _ _ => rfl)) (fun _ _ => rfl)) (pe_ix ix_tup (pv 1) pe_int (fun _ _ => rfl))))
        (pss_one (ps_if (pt_cmpR op_in_seq (pv 3) (pe_lst (pa_cons pe_str (pa_cons pe_str (pa_cons pe_str (pa_cons pe_str (pa_cons pe_str (pa_cons pe_str pa_nil))))))) (by rfl))
          (pss_one (ps_expr (pe_n Cm hr1 rfl (pa_cons (pv 0) (pa_cons (pv 3) (pa_cons (pe_ix ix_tup (pv 1) pe_int (fun _ _ => rfl)) (pa_cons (pv 5) (pa_cons (pv 6) pa_nil))))))))
          (pss_one (ps_expr (pe_n Cr hr rfl (pa_cons (pv 0) (pa_cons (pv 3) (pa_cons (pe_ix ix_tup (pv 1) pe_int (fun _ _ => rfl)) (pa_cons (pv 5) (pa_cons (pv 6) pa_nil)))))))))))) pss_nil)
      (pss_one (ps_ret (pv 2)))))), ?_⟩
    cases r with
    | alone k =>
      have e : k = 2 := go
      subst e
      obtain ⟨g1, g2, g3⟩ := rest_goers
      refine ⟨_, rfl, t, _, 0, _, rfl, rfl, ht.sq, rfl, ?_⟩
      refine ⟨_, rfl, ?_⟩
      refine test_in goersW (aloneW.getD 2 "") (fun R h => h) (by decide) fun H1 s1 => ifF (decide_eq_false g1) ?_
      refine ⟨_, rfl, ?_⟩
      refine test_in singleW (aloneW.getD 2 "") (fun R h => h) (by decide) fun H2 s2 => ifF (decide_eq_false g2) ?_
      refine ⟨_, rfl, rfl, _, rfl, ifF (by rw [dec_str_eq g3]; rfl) ?_⟩
      exact ⟨_, rfl, q _ (Kp.of (s1.trans s2)) (hm.same (s1.trans s2))⟩
    | jump k n =>
      refine ⟨_, rfl, t, _, 0, _, rfl, rfl, ht.sq, rfl, ?_⟩
      refine ⟨_, rfl, ?_⟩
      refine test_in goersW (jumpW.getD k "") (fun R h => h) (by decide) fun H1 s1 => ifT (decide_eq_true (jump_goers k go)) ?_
      refine ⟨_, rfl, _, rfl, _, rfl, F, m, _, k, n, b, rfl, ⟨t, rfl, ht.mv (Tups.of s1)⟩, go, hm.same s1, fun H2 s2 => ?_⟩
      exact q _ (Kp.of (s1.trans s2)) (hm.same (s1.trans s2))
    | single k r =>
      obtain ⟨g1, g2⟩ := single_goers k ok.1
      refine ⟨_, rfl, t, _, 0, _, rfl, rfl, ht.sq, rfl, ?_⟩
      refine ⟨_, rfl, ?_⟩
      refine test_in goersW (singleW.getD k "") (fun R h => h) (by decide) fun H1 s1 => ifF (decide_eq_false g1) ?_
      refine ⟨_, rfl, ?_⟩
      refine test_in singleW (singleW.getD k "") (fun R h => h) (by decide) fun H2 s2 => ifT (decide_eq_true g2) ?_
      have s12 := s1.trans s2
      refine ⟨_, rfl, _, rfl, _, rfl, t, _, 1, _, rfl, rfl, (ht.mv (Tups.of s12)).sq, rfl, F, m, _, _, rfl, box_key r ok.2, hkl, hol, hm.same s12, fun H3 k3 m3 => ?_⟩
      have q' := q H3 ((Kp.of s12).trans k3) m3
      have ed : doneV (m.done b (.single k r)) = (match (m.passed (singleW.getD k "") (bx r)).2 with | some z => V.str z | none => V.int b) := rfl
      rw [ed] at q'
      cases ez : (m.passed (singleW.getD k "") (bx r)).2 with
      | none =>
        rw [ez] at q'
        exact ⟨_, rfl, rfl, _, rfl, iteT ⟨_, rfl, q'⟩⟩
      | some z =>
        rw [ez] at q'
        exact ⟨_, rfl, rfl, _, rfl, iteF ⟨_, rfl, q'⟩⟩
    | numd k r n =>
      obtain ⟨g1, g2, g3, g4⟩ := numd_goers k ok.1
      have hrk := box_key r ok.2.1
      refine ⟨_, rfl, t, _, 0, _, rfl, rfl, ht.sq, rfl, ?_⟩
      refine ⟨_, rfl, ?_⟩
      refine test_in goersW (numdW.getD k "") (fun R h => h) (by decide) fun H1 s1 => ifF (decide_eq_false g1) ?_
      refine ⟨_, rfl, ?_⟩
      refine test_in singleW (numdW.getD k "") (fun R h => h) (by decide) fun H2 s2 => ifF (decide_eq_false g2) ?_
      have s12 := s1.trans s2
      have h2 := hm.same s12
      have t2 := (ht.mv (Tups.of s12)).sq
      refine ⟨_, rfl, rfl, _, rfl, ifT (by rw [dec_str_ne g3]; rfl) ?_⟩
      refine ⟨_, rfl, F.m, _, rfl, h2.get (mv_n F), _, rfl, t, _, 1, _, rfl, rfl, t2, rfl, F.n, _, rfl, h2.name hrk, ?_⟩
      refine ⟨_, rfl, t, _, 2, _, rfl, rfl, t2, rfl, _, _, _, _, false, rfl, .ty "str", .base (.int _), kit_ty (by decide +kernel), _, rfl, iteF ?_⟩
      refine ⟨_, rfl, t, _, 2, _, rfl, rfl, t2, rfl, ?_⟩
      refine ⟨_, rfl, ?_⟩
      refine test_in movesW (numdW.getD k "") (fun R h => h) (by decide) fun H3 s3 => ?_
      have s13 := s12.trans s3
      have h3 := hm.same s13
      have t3 := (ht.mv (Tups.of s13)).sq
      by_cases em : numdW.getD k "" ∈ movesW
      · have ew : m.done b (.numd k r n) = (m.moved (numdW.getD k "") (bx r) (m.names (bx r)) n, none, b) := by
          show (m.work _ _ _ _, none, b) = _
          unfold M.work
          rw [if_pos em]
        rw [ew] at q
        refine ifT (decide_eq_true em) ?_
        refine ⟨_, rfl, _, rfl, _, rfl, t, _, 1, _, rfl, rfl, t3, rfl, _, rfl, _, rfl, F, m, _, _, _, _, rfl, hrk, hc, h3, fun H4 k4 m4 => ?_⟩
        exact ⟨_, rfl, q _ ((Kp.of s13).trans k4) m4⟩
      · have ew : m.done b (.numd k r n) = (m.reck (numdW.getD k "") (bx r) (m.names (bx r)) n, none, b) := by
          show (m.work _ _ _ _, none, b) = _
          unfold M.work
          rw [if_neg em]
        rw [ew] at q
        refine ifF (decide_eq_false em) ?_
        refine ⟨_, rfl, _, rfl, _, rfl, t, _, 1, _, rfl, rfl, t3, rfl, _, rfl, _, rfl, F, m, _, _, _, _, rfl, hrk, g4 em, h3, fun H4 k4 m4 => ?_⟩
        exact ⟨_, rfl, q _ ((Kp.of s13).trans k4) m4⟩
    | pair k r s' =>
      obtain ⟨g1, g2, g3, g4⟩ := pair_goers k ok.1
      have hrk := box_key r ok.2.1
      have hsk := box_key s' ok.2.2
      refine ⟨_, rfl, t, _, 0, _, rfl, rfl, ht.sq, rfl, ?_⟩
      refine ⟨_, rfl, ?_⟩
      refine test_in goersW (pairW.getD k "") (fun R h => h) (by decide) fun H1 s1 => ifF (decide_eq_false g1) ?_
      refine ⟨_, rfl, ?_⟩
      refine test_in singleW (pairW.getD k "") (fun R h => h) (by decide) fun H2 s2 => ifF (decide_eq_false g2) ?_
      have s12 := s1.trans s2
      have h2 := hm.same s12
      have t2 := (ht.mv (Tups.of s12)).sq
      refine ⟨_, rfl, rfl, _, rfl, ifT (by rw [dec_str_ne g3]; rfl) ?_⟩
      refine ⟨_, rfl, F.m, _, rfl, h2.get (mv_n F), _, rfl, t, _, 1, _, rfl, rfl, t2, rfl, F.n, _, rfl, h2.name hrk, ?_⟩
      refine ⟨_, rfl, t, _, 2, _, rfl, rfl, t2, rfl, _, _, _, _, true, rfl, .ty "str", .base (.str _), kit_ty (by decide +kernel), _, rfl, iteT ?_⟩
      refine ⟨_, rfl, F.m, _, rfl, h2.get (mv_n F), _, rfl, t, _, 2, _, rfl, rfl, t2, rfl, F.n, _, rfl, h2.name hsk, ?_⟩
      refine ⟨_, rfl, ?_⟩
      refine test_in movesW (pairW.getD k "") (fun R h => h) (by decide) fun H3 s3 => ?_
      have s13 := s12.trans s3
      have h3 := hm.same s13
      have t3 := (ht.mv (Tups.of s13)).sq
      by_cases em : pairW.getD k "" ∈ movesW
      · have ew : m.done b (.pair k r s') = (m.moved (pairW.getD k "") (bx r) (m.names (bx r)) (m.names (bx s')), none, b) := by
          show (m.work _ _ _ _, none, b) = _
          unfold M.work
          rw [if_pos em]
        rw [ew] at q
        refine ifT (decide_eq_true em) ?_
        refine ⟨_, rfl, _, rfl, _, rfl, t, _, 1, _, rfl, rfl, t3, rfl, _, rfl, _, rfl, F, m, _, _, _, _, rfl, hrk, hc, h3, fun H4 k4 m4 => ?_⟩
        exact ⟨_, rfl, q _ ((Kp.of s13).trans k4) m4⟩
      · have ew : m.done b (.pair k r s') = (m.reck (pairW.getD k "") (bx r) (m.names (bx r)) (m.names (bx s')), none, b) := by
          show (m.work _ _ _ _, none, b) = _
          unfold M.work
          rw [if_neg em]
        rw [ew] at q
        refine ifF (decide_eq_false em) ?_
        refine ⟨_, rfl, _, rfl, _, rfl, t, _, 1, _, rfl, rfl, t3, rfl, _, rfl, _, rfl, F, m, _, _, _, _, rfl, hrk, g4 em, h3, fun H4 k4 m4 => ?_⟩
        exact ⟨_, rfl, q _ ((Kp.of s13).trans k4) m4⟩
end
end Rwl

/-! W15: a fresh machine, inputs. -/
namespace Rwl
open PySem PySem.Spec PyProof.Rows L2

def M.fresh (is : List Int) : M := ⟨fun _ => 0, List.replicate 64 0, [], is, []⟩
theorem bx0 : ("a" : Str) = bx 0 := by decide +kernel
theorem bx1 : ("b" : Str) = bx 1 := by decide +kernel
theorem bx2 : ("c" : Str) = bx 2 := by decide +kernel
theorem bx3 : ("d" : Str) = bx 3 := by decide +kernel
def freshKv : List (Key × V) := [(Sum.inr "a", .int 0), (Sum.inr "b", .int 0), (Sum.inr "c", .int 0), (Sum.inr "d", .int 0), (Sum.inr "zero", .int 0), (Sum.inr "less", .int 0)]
theorem fresh_kv : mergeK [] freshKv = nkv fun _ => 0 := by
  have h : (freshKv.map (·.1)).Nodup := by decide +kernel
  rw [merge_nd h]
  unfold freshKv nkv keys
  rw [bx0, bx1, bx2, bx3]
  rfl
theorem Kp.new {S : List Addr} {H H' : Hp} {l : Addr} {o : HO} (k : Kp S H H') (n : H l = none) : Kp S H (upd H' l o) :=
  ⟨fun b u hb e => by rw [upd_ne (ne_of_none e n)]; exact k.keep b u hb e, fun b xs e => by rw [upd_ne (ne_of_none e n)]; exact k.tups b xs e⟩
def spFresh : Sp := fun vs H Q _ => ∃ (a : Addr) (is : List Int), vs = [.ref a] ∧ H a = some (.lst (is.map V.int)) ∧ ∀ (H' : Hp) (F : Ft), Same H H' → (∀ b ∈ F.all, H b = none) → MAt H' F (M.fresh is) → Q (.ref F.m) H'
def spInputs : Sp := fun vs H Q _ => ∃ a : Addr, vs = [.ref a] ∧ SprOk H a ∧ ∀ (H' : Hp) (p : Addr) (is : List Int), SprOk H' a → Kp [a] H H' → H p = none → H' p = some (.lst (is.map V.int)) → Q (.ref p) H'
section
variable {P : Program} {w : World} {K : PySem.W.Frag} {mg : Str → Option Value} {base : Heap} {f : Addr} {fd : FuncData}
theorem ok_fresh (F0 : Fun K "_law_fresh" "_law_fresh" (top 56) f fd) (gl : mg "list" = none) : FnOk P w K mg base CX0 1 f fd ["_law_inputs_here"] spFresh := by
  have sc : FnScope ["_law_inputs_here", "_law_names"] ["_law_inputs_here"] (defScope (top 56)) := sc_by (by decide +kernel)
  refine F0.ok sc (fun vs H Q E h => ?_) fun cdv A outer s H vs Q E hr h => ?_
  · obtain ⟨a, is, rfl, _⟩ := h
    rfl
  · obtain ⟨a, is, rfl, ha, q⟩ := h
    refine ⟨_, pss_cons (ps_set (i := 1) sc.nd rfl (.inl rfl) (pe_disp (pps_cons pe_str pe_int (pps_cons pe_str pe_int (pps_cons pe_str pe_int (pps_cons pe_str pe_int (pps_cons pe_str pe_int (pps_cons pe_str pe_int pps_nil)))))) (by rfl) (by rfl) (fun z => by cases z) (by decide)))
      (pss_one (ps_ret (pe_disp (pps_cons pe_str (pv 1) (pps_cons pe_str (pe_op op_rep (pe_lst (pa_cons pe_int pa_nil)) pe_int) (pps_cons pe_str (pe_lst pa_nil) (pps_cons pe_str (pe_lst pa_nil)
        (pps_cons pe_str (pe_callTy call_list_of (by rfl) gl (by decide +kernel) (pa_cons (pv 0) pa_nil)) (pps_cons pe_str (pe_lst pa_nil) pps_nil)))))) (by rfl) (by rfl) (fun z => by cases z) (by decide)))), ?_⟩
    intro n n0
    refine ⟨upd_same, freshKv, rfl, (by show 6 ≤ 15; decide), ?_⟩
    rw [upd_upd, fresh_kv]
    have s1 : Same H (upd H n (.dK (nkv fun _ => 0))) := new_same n0
    intro d d0
    have s2 := new_same (o := .dK []) d0
    refine ⟨_, rfl, one_line, fun l l0 => ⟨l, _, _, rfl, rfl, upd_same, by decide, by decide, by decide, fun c c0 => ?_⟩⟩
    have s3 := new_same (o := .lst [.int 0]) l0
    have s4 := new_same (o := .lst (List.replicate (64 : Int).toNat [V.int 0]).flatten) c0
    refine ⟨Nat.zero_le _, fun k k0 => ⟨Nat.zero_le _, fun p p0 => ?_⟩⟩
    have s5 := new_same (o := .lst []) k0
    have s6 := new_same (o := .lst []) p0
    have w5 := s5.trans s6
    have w4 := s4.trans w5
    have w3 := s3.trans w4
    have w2 := s2.trans w3
    have w1 := s1.trans w2
    refine ⟨_, rfl, a, _, rfl, .inl (SqL.of (w1 _ _ ha)), fun i i0 => ⟨Nat.zero_le _, fun o o0 => ?_⟩⟩
    have s7 := new_same (o := .lst (is.map V.int)) i0
    have s8 := new_same (o := .lst []) o0
    have x7 := s7.trans s8
    have x6 := s6.trans x7
    have x5 := s5.trans x6
    have x4 := s4.trans x5
    have x3 := s3.trans x4
    have x2 := s2.trans x3
    have hn := x2 _ _ (upd_same (H := H) (a := n) (o := .dK (nkv fun _ => 0)))
    have hd := x3 _ _ (upd_same (a := d) (o := .dK []))
    have hc := x5 _ _ (upd_same (a := c) (o := .lst (List.replicate (64 : Int).toNat [V.int 0]).flatten))
    have hk := x6 _ _ (upd_same (a := k) (o := .lst []))
    have hp := x7 _ _ (upd_same (a := p) (o := .lst []))
    have hi := s8 _ _ (upd_same (a := i) (o := .lst (is.map V.int)))
    refine ⟨hd, mkv ⟨d, n, c, k, p, i, o⟩, rfl, (by show 6 ≤ 15; decide), ?_⟩
    rw [merge_nd (mkv_nd _)]
    -- what is fresh at each place
    have fd' : H d = none := s1.free d0
    have fc : H c = none := (s1.trans (s2.trans s3)).free c0
    have fk : H k = none := (s1.trans (s2.trans (s3.trans s4))).free k0
    have fp : H p = none := (s1.trans (s2.trans (s3.trans (s4.trans s5)))).free p0
    have fi : H i = none := (w1).free i0
    have fo : H o = none := (w1.trans s7).free o0
    have ndn : d ≠ n := (ne_of_none (upd_same (H := H) (a := n) (o := .dK (nkv fun _ => 0))) d0).symm
    have ap : FtApart ⟨d, n, c, k, p, i, o⟩ := by
      have nc1 : ∀ b u, upd (upd (upd H n (.dK (nkv fun _ => 0))) d (.dK [])) l (.lst [.int 0]) b = some u → b ≠ c := fun b u e => ne_of_none e c0
      have nk1 : ∀ b u, _ → b ≠ k := fun b u (e : _ = some u) => ne_of_none (o := u) e k0
      have np1 : ∀ b u, _ → b ≠ p := fun b u (e : _ = some u) => ne_of_none (o := u) e p0
      have ni1 : ∀ b u, _ → b ≠ i := fun b u (e : _ = some u) => ne_of_none (o := u) e i0
      have no1 : ∀ b u, _ → b ≠ o := fun b u (e : _ = some u) => ne_of_none (o := u) e o0
      have en : upd H n (.dK (nkv fun _ => 0)) n = some (.dK (nkv fun _ => 0)) := upd_same
      have ed := upd_same (H := upd H n (.dK (nkv fun _ => 0))) (a := d) (o := HO.dK [])
      have ec := upd_same (H := upd (upd (upd H n (.dK (nkv fun _ => 0))) d (.dK [])) l (.lst [.int 0])) (a := c) (o := .lst (List.replicate (64 : Int).toNat [V.int 0]).flatten)
      have ek := upd_same (H := upd (upd (upd (upd H n (.dK (nkv fun _ => 0))) d (.dK [])) l (.lst [.int 0])) c (.lst (List.replicate (64 : Int).toNat [V.int 0]).flatten)) (a := k) (o := HO.lst [])
      have ep := upd_same (H := upd (upd (upd (upd (upd H n (.dK (nkv fun _ => 0))) d (.dK [])) l (.lst [.int 0])) c (.lst (List.replicate (64 : Int).toNat [V.int 0]).flatten)) k (.lst [])) (a := p) (o := HO.lst [])
      refine ⟨ndn, nc1 _ _ (s3 _ _ ed), nk1 _ _ (s4 _ _ (s3 _ _ ed)), np1 _ _ (s5 _ _ (s4 _ _ (s3 _ _ ed))), ni1 _ _ (w3 _ _ ed), no1 _ _ (s7 _ _ (w3 _ _ ed)),
        nc1 _ _ (s3 _ _ (s2 _ _ en)), nk1 _ _ (s4 _ _ (s3 _ _ (s2 _ _ en))), np1 _ _ (s5 _ _ (s4 _ _ (s3 _ _ (s2 _ _ en)))), ni1 _ _ (w2 _ _ en), no1 _ _ (s7 _ _ (w2 _ _ en)),
        nk1 _ _ ec, np1 _ _ (s5 _ _ ec), ni1 _ _ (w5 _ _ ec), no1 _ _ (s7 _ _ (w5 _ _ ec)), np1 _ _ ek, ni1 _ _ (s6 _ _ ek), no1 _ _ (s7 _ _ (s6 _ _ ek)), ni1 _ _ ep, no1 _ _ (s7 _ _ ep), no1 _ _ upd_same⟩
    refine q _ ⟨d, n, c, k, p, i, o⟩ (fun b u e => ?_) (fun b hb => ?_) ⟨upd_same, ?_, ?_, ?_, ?_, ?_, ?_, ap.nd⟩
    · rw [upd_ne (ne_of_none e fd')]
      exact (w1.trans x7) b u e
    · simp only [Ft.all, List.mem_cons, List.not_mem_nil, or_false] at hb
      rcases hb with rfl | rfl | rfl | rfl | rfl | rfl | rfl <;> assumption
    · rw [upd_ne ap.mn.symm]
      exact hn
    · rw [upd_ne ap.mc.symm]
      exact hc
    · rw [upd_ne ap.m_k.symm]
      exact hk
    · rw [upd_ne ap.mp.symm]
      exact hp
    · rw [upd_ne ap.mi.symm]
      exact hi
    · rw [upd_ne ap.mo.symm]
      exact upd_same
end
end Rwl

/-! W16: inputs; a drawn state. -/
namespace Rwl
open PySem PySem.Spec PyProof.Rows L2

theorem pick2 {x y : Int} {v : Nat} (hv : (v : Int) < 2) : ∃ n, (n = x ∨ n = y) ∧ atI [V.int x, V.int y] (v : Int) = some (.int n) := by
  have hc : v = 0 ∨ v = 1 := by omega
  rcases hc with rfl | rfl
  · exact ⟨x, .inl rfl, rfl⟩
  · exact ⟨y, .inr rfl, rfl⟩
section
variable {P : Program} {w : World} {K : PySem.W.Frag} {mg : Str → Option Value} {base : Heap} {f : Addr} {fd : FuncData}
abbrev inN : List Str := ["_law_spring_here", "_law_found", "_law_turn"]
theorem ok_inputs (F0 : Fun K "_law_inputs" "_law_inputs" (top 64) f fd) (C : Cal P w K mg base 1 "_law_draw" dps spDraw) (gr : mg "range" = none) : FnOk P w K mg base CX0 2 f fd ["_law_spring_here"] spInputs := by
  have sc : FnScope inN ["_law_spring_here"] (defScope (top 64)) := sc_by (by decide +kernel)
  refine F0.ok sc (fun vs H Q E h => ?_) fun cdv A outer s H vs Q E hr h => ?_
  · obtain ⟨a, rfl, _⟩ := h
    rfl
  · obtain ⟨a, rfl, sp, q⟩ := h
    refine ⟨_, pss_cons (ps_set (i := 1) sc.nd rfl (.inl rfl) (pe_lst pa_nil))
      (pss_cons (ps_for PassesOwn.never rfl (pi_range1 (by rfl) gr (pa_cons (pe_n C hr rfl (pa_cons (pv 0) (pa_cons (pe_ix ix_list (pe_lst (pa_cons pe_int (pa_cons pe_int pa_nil))) (pe_op op_fdiv (pe_n C hr rfl (pa_cons (pv 0) (pa_cons pe_int pa_nil))) pe_int) (fun _ _ => rfl)) pa_nil))) pa_nil)) (pg_name (i := 2) sc.nd rfl (.inl rfl))
        (pss_one (ps_expr (pe_bm PySem.F.plainAttrs_list PySem.F.slot_list_append PySem.F.type_list_append mt_append (pv 1) (pa_cons (pe_ix ix_list (pe_lst (pa_cons (pe_n C hr rfl (pa_cons (pv 0) (pa_cons pe_int pa_nil))) (pa_cons (pe_n C hr rfl (pa_cons (pv 0) (pa_cons pe_int pa_nil))) pa_nil))) (pe_n C hr rfl (pa_cons (pv 0) (pa_cons pe_int pa_nil))) (fun _ _ => rfl)) pa_nil)))))
      (pss_one (ps_ret (pv 1)))), ?_⟩
    refine ⟨Nat.zero_le _, fun l l0 => ?_⟩
    have s1 := new_same (o := .lst []) l0
    have p1 := sp.same s1
    refine ⟨_, rfl, two_line, fun t t0 => ?_⟩
    have s2 := new_same (o := .lst [.int 11, .int 201]) t0
    have p2 := p1.same s2
    refine ⟨_, rfl, a, 16, rfl, by decide, by decide, p2, fun H3 v3 l3 p3 o3 => ⟨_, _, rfl, rfl, ⟨by decide, by decide⟩, ?_⟩⟩
    have k3 : Kp [a] H H3 := (Kp.of (s1.trans s2)).trans (Kp.drawn p2 o3)
    have ht : H3 t = some (.lst [.int 11, .int 201]) := o3.list (p1.ne t0) upd_same
    have hl3 : H3 l = some (.lst []) := o3.list (sp.ne l0) (s2 _ _ upd_same)
    obtain ⟨u, eu, hu2⟩ : ∃ u : Nat, (v3 : Int) / 15 = (u : Int) ∧ (u : Int) < 2 := ⟨v3 / 15, by omega, by omega⟩
    obtain ⟨n, hn, en⟩ := pick2 (x := 11) (y := 201) hu2
    have nn : 0 < n ∧ n ≤ 256 := by rcases hn with rfl | rfl <;> decide
    refine ⟨t, _, (u : Int), _, rfl, congrArg V.int eu, SqL.of ht, en, ?_⟩
    refine ⟨a, n, rfl, nn.1, nn.2, p3, fun H4 v4 l4 p4 o4 => ?_⟩
    have k4 := k3.trans (Kp.drawn p3 o4)
    have hl4 : H4 l = some (.lst []) := o4.list (sp.ne l0) hl3
    refine ⟨(v4 : Int), rfl, by omega, by omega, for_range (lo := 0) (n := (v4 : Int).toNat) (fun i σ H' => ∃ (is : List Int) (u : Option V), σ = [some (.ref a), some (.ref l), u] ∧ is.length = i ∧ SprOk H' a ∧ Kp [a] H H' ∧ H' l = some (.lst (is.map V.int)))
      ⟨[], none, rfl, rfl, p4, k4, hl4⟩ ?_ ?_⟩
    · rintro i σ H' hi ⟨is, u, rfl, hlen, sp', kk, hl'⟩
      have il : is.length < sizeLine := Nat.lt_of_lt_of_le (show is.length < 300 by omega) (by decide)
      refine ⟨_, rfl, .inl ⟨rfl, _, SqL.of hl'⟩, ?_⟩
      refine ⟨_, rfl, a, 256, rfl, by decide, by decide, sp', fun H5 v5 l5 p5 o5 => ?_⟩
      refine ⟨_, rfl, a, 3, rfl, by decide, by decide, p5, fun H6 v6 l6 p6 o6 => ⟨two_line, fun t2 n2 => ?_⟩⟩
      have s7 := new_same (o := .lst [.int v5, .int v6]) n2
      refine ⟨_, rfl, a, 2, rfl, by decide, by decide, p6.same s7, fun H8 v8 l8 p8 o8 => ?_⟩
      have h8 : H8 t2 = some (.lst [.int v5, .int v6]) := o8.list (p6.ne n2) upd_same
      obtain ⟨n, _, en⟩ := pick2 (x := (v5 : Int)) (y := (v6 : Int)) l8
      have la : l ≠ a := sp.ne l0
      have hl8 : H8 l = some (.lst (is.map V.int)) := o8.list la (s7 _ _ (o6.list la (o5.list la hl')))
      refine ⟨t2, _, _, _, rfl, rfl, SqL.of h8, en, l, _, _, rfl, rfl, hl8, by rw [List.length_map]; exact il, ?_⟩
      have k8 := ((kk.trans (Kp.drawn sp' o5)).trans ((Kp.drawn p5 o6).trans (Kp.of s7))).trans (Kp.drawn (p6.same s7) o8)
      refine ⟨is ++ [n], _, rfl, by rw [List.length_append, hlen]; rfl, ?_, k8.new l0, ?_⟩
      · obtain ⟨x, y, z, e, h0, h1⟩ := p8
        exact ⟨x, y, z, by rw [upd_ne la.symm]; exact e, h0, h1⟩
      · rw [upd_same, List.map_append]
        rfl
    · rintro σ H' ⟨is, u, rfl, _, sp', kk, hl'⟩
      exact ⟨_, rfl, q H' l is sp' kk l0 hl'⟩
end
end Rwl

/-! W17: a drawn state. -/
namespace Rwl
open PySem PySem.Spec PyProof.Rows L2

theorem for_str {x : Str} {g : TG} {tb : TS} {D : Ends} {σ : L2.St} {H : Hp} (Pv : Nat → L2.St → Hp → Prop) (h0 : Pv 0 σ H)
    (hs : ∀ i c σ H, x.cps[i]? = some c → Pv i σ H → g (.str ⟨#[c]⟩) σ H fun σ2 H2 => tb { D with nx := Pv (i + 1), ct := Pv (i + 1), bk := D.nx } σ2 H2) (hd : ∀ σ H, Pv x.cps.size σ H → D.nx σ H) :
    ∃ W : Nat → Nat → L2.St → Hp → Prop, (∃ m, W 0 m σ H) ∧ ∀ i m σ H, W i m σ H →
      ((Its x).stop i H ∧ D.nx σ H) ∨ ((Its x).go i H ∧ ∃ N : L2.St → Hp → Prop, (∀ σ' H', N σ' H' → ∃ m', m' < m ∧ W (i + 1) m' σ' H') ∧ ∀ v H', (Its x).yld i H v H' → g v σ H' fun σ2 H2 => tb { D with nx := N, ct := N, bk := D.nx } σ2 H2) := by
  refine ⟨fun i m σ H => m = x.cps.size - i ∧ i ≤ x.cps.size ∧ Pv i σ H, ⟨_, rfl, Nat.zero_le _, h0⟩, fun i m σ H hw => ?_⟩
  obtain ⟨em, le, p⟩ := hw
  by_cases lt : i < x.cps.size
  · refine .inr ⟨lt, Pv (i + 1), fun σ' H' p' => ⟨x.cps.size - (i + 1), by omega, rfl, lt, p'⟩, fun v H' yl => ?_⟩
    obtain ⟨eH, c, ec, ev⟩ := yl
    subst eH ev
    exact hs i c σ _ ec p
  · have ei : i = x.cps.size := by omega
    subst ei
    exact .inl ⟨Nat.le_refl _, hd σ H p⟩
theorem abcd_at (i c : Nat) (h : ("abcd" : Str).cps[i]? = some c) : i < 4 ∧ (⟨#[c]⟩ : Str) = bx i := by
  have e : ("abcd" : Str).cps = #[97, 98, 99, 100] := by decide +kernel
  rw [e] at h
  have hi : i < 4 := by
    have q := (Array.getElem?_eq_some_iff.mp h).1
    simpa using q
  refine ⟨hi, ?_⟩
  have hc : i = 0 ∨ i = 1 ∨ i = 2 ∨ i = 3 := by omega
  rcases hc with rfl | rfl | rfl | rfl <;> (cases h; rfl)
theorem abcd_size : ("abcd" : Str).cps.size = 4 := by decide +kernel
theorem put_c (F : Ft) (D : Addr) : putK (mkv F) (Sum.inr "cells") (.ref D) = mkv { F with c := D } := by
  unfold putK mkv
  rw [if_pos (List.any_eq_true.mpr ⟨((Sum.inr "cells" : Key), V.ref F.c), by simp, decide_eq_true rfl⟩)]
  simp only [List.map_cons, List.map_nil]
  rw [if_neg nc_, if_pos trivial, if_neg (fun h => ck_ h.symm), if_neg (fun h => cp_ h.symm), if_neg (fun h => ci_ h.symm), if_neg (fun h => co_ h.symm)]
theorem put_k (F : Ft) (D : Addr) : putK (mkv F) (Sum.inr "kept") (.ref D) = mkv { F with k := D } := by
  unfold putK mkv
  rw [if_pos (List.any_eq_true.mpr ⟨((Sum.inr "kept" : Key), V.ref F.k), by simp, decide_eq_true rfl⟩)]
  simp only [List.map_cons, List.map_nil]
  rw [if_neg nk_, if_neg ck_, if_pos trivial, if_neg (fun h => kp_ h.symm), if_neg (fun h => ki_ h.symm), if_neg (fun h => ko_ h.symm)]
theorem mkv_len (F : Ft) : (mkv F).length < sizeLine := by
  show 6 < sizeLine
  decide
theorem mem_all {F : Ft} {b : Addr} (h : b ∈ F.all) : b = F.m ∨ b = F.n ∨ b = F.c ∨ b = F.k ∨ b = F.p ∨ b = F.i ∨ b = F.o := by
  simpa [Ft.all] using h
theorem MAt.has {H : Hp} {F : Ft} {m : M} (h : MAt H F m) {b : Addr} (hb : b ∈ F.all) : ∃ o, H b = some o := by
  rcases mem_all hb with rfl | rfl | rfl | rfl | rfl | rfl | rfl
  · exact ⟨_, h.md⟩
  · exact ⟨_, h.nm⟩
  · exact ⟨_, h.cl⟩
  · exact ⟨_, h.kp⟩
  · exact ⟨_, h.pl⟩
  · exact ⟨_, h.inp⟩
  · exact ⟨_, h.out⟩
theorem MAt.off {H : Hp} {F : Ft} {m : M} (h : MAt H F m) {D : Addr} (n : H D = none) : ¬ D ∈ F.all := fun z => by
  obtain ⟨o, e⟩ := h.has z
  rw [n] at e
  cases e
theorem MAt.upd' {H : Hp} {F : Ft} {m : M} (h : MAt H F m) {D : Addr} {o : HO} (n : ¬ D ∈ F.all) : MAt (upd H D o) F m := by
  have ne : ∀ b, b ∈ F.all → upd H D o b = H b := fun b hb => upd_ne fun z => n (by rw [← z]; exact hb)
  exact ⟨by rw [ne _ (in_m F)]; exact h.md, by rw [ne _ (in_n F)]; exact h.nm, by rw [ne _ (in_c F)]; exact h.cl, by rw [ne _ (in_k F)]; exact h.kp, by rw [ne _ (by simp [Ft.all])]; exact h.pl, by rw [ne _ (in_i F)]; exact h.inp, by rw [ne _ (in_o F)]; exact h.out, h.nd⟩
theorem MAt.newC {H : Hp} {F : Ft} {m : M} (h : MAt H F m) {D : Addr} {cs : List Int} (n : ¬ D ∈ F.all) (hD : H D = some (.lst (cs.map V.int))) : MAt (upd H F.m (.dK (mkv { F with c := D }))) { F with c := D } { m with cells := cs } := by
  have a := apart_of h.nd
  simp only [Ft.all, List.mem_cons, List.not_mem_nil, or_false, not_or] at n
  obtain ⟨n1, n2, n3, n4, n5, n6, n7⟩ := n
  have a' : FtApart { F with c := D } := ⟨a.mn, Ne.symm n1, a.m_k, a.mp, a.mi, a.mo, Ne.symm n2, a.nk, a.np, a.ni, a.no, n4, n5, n6, n7, a.kp, a.ki, a.ko, a.pi, a.po, a.io⟩
  exact ⟨upd_same, by rw [upd_ne a.mn.symm]; exact h.nm, by rw [upd_ne n1]; exact hD, by rw [upd_ne a.m_k.symm]; exact h.kp, by rw [upd_ne a.mp.symm]; exact h.pl, by rw [upd_ne a.mi.symm]; exact h.inp, by rw [upd_ne a.mo.symm]; exact h.out, a'.nd⟩
theorem MAt.newK {H : Hp} {F : Ft} {m : M} (h : MAt H F m) {D : Addr} {cs : List Int} (n : ¬ D ∈ F.all) (hD : H D = some (.lst (cs.map V.int))) : MAt (upd H F.m (.dK (mkv { F with k := D }))) { F with k := D } { m with kept := cs } := by
  have a := apart_of h.nd
  simp only [Ft.all, List.mem_cons, List.not_mem_nil, or_false, not_or] at n
  obtain ⟨n1, n2, n3, n4, n5, n6, n7⟩ := n
  have a' : FtApart { F with k := D } := ⟨a.mn, a.mc, Ne.symm n1, a.mp, a.mi, a.mo, a.nc, Ne.symm n2, a.np, a.ni, a.no, Ne.symm n3, a.cp, a.ci, a.co, n5, n6, n7, a.pi, a.po, a.io⟩
  exact ⟨upd_same, by rw [upd_ne a.mn.symm]; exact h.nm, by rw [upd_ne a.mc.symm]; exact h.cl, by rw [upd_ne n1]; exact hD, by rw [upd_ne a.mp.symm]; exact h.pl, by rw [upd_ne a.mi.symm]; exact h.inp, by rw [upd_ne a.mo.symm]; exact h.out, a'.nd⟩
theorem Kp.free {H H1 : Hp} {a D : Addr} (k : Kp [a] H H1) (sp : SprOk H1 a) (n : H1 D = none) : H D = none := by
  cases e : H D with
  | none => rfl
  | some u =>
    by_cases z : D = a
    · rw [z] at n
      obtain ⟨x, y, c, q, _⟩ := sp
      rw [n] at q
      cases q
    · have q := k.keep D u (fun h => z (List.mem_singleton.mp h)) e
      rw [n] at q
      cases q
theorem SprOk.upd' {H : Hp} {a D : Addr} {o : HO} (h : SprOk H a) (n : D ≠ a) : SprOk (upd H D o) a := by
  obtain ⟨x, y, c, e, h0, h1⟩ := h
  exact ⟨x, y, c, by rw [upd_ne n.symm]; exact e, h0, h1⟩
/-- the state of the making: the spring at a, a machine that is all new -/
structure Mk (H0 H : Hp) (a : Addr) (F : Ft) (m : M) : Prop where
  sp : SprOk H a
  kp : Kp [a] H0 H
  at_ : MAt H F m
  new : ∀ b ∈ F.all, H0 b = none
  out : m.outs = []
  box : ∀ r, r < 4 → byteOk (m.names (bx r))
  nota : ¬ a ∈ F.all
theorem Mk.drawn {H0 H H' : Hp} {a : Addr} {F : Ft} {m : M} (h : Mk H0 H a F m) (sp : SprOk H' a) (o : Only1 a H H') : Mk H0 H' a F m :=
  ⟨sp, h.kp.trans (Kp.drawn h.sp o), h.at_.kp' (Kp.drawn h.sp o) fun b hb z => h.nota (by rw [← List.mem_singleton.mp z]; exact hb), h.new, h.out, h.box, h.nota⟩
theorem Mk.same {H0 H H' : Hp} {a : Addr} {F : Ft} {m : M} (h : Mk H0 H a F m) (s : Same H H') : Mk H0 H' a F m :=
  ⟨h.sp.same s, h.kp.trans (Kp.of s), h.at_.same s, h.new, h.out, h.box, h.nota⟩
theorem Mk.upd' {H0 H : Hp} {a D : Addr} {F : Ft} {m : M} {o : HO} (h : Mk H0 H a F m) (n : ¬ D ∈ F.all) (na : D ≠ a) (n0 : H0 D = none) : Mk H0 (upd H D o) a F m :=
  ⟨h.sp.upd' na, h.kp.new n0, h.at_.upd' n, h.new, h.out, h.box, h.nota⟩
def spState : Sp := fun vs H Q _ => ∃ a : Addr, vs = [.ref a] ∧ SprOk H a ∧ ∀ (H' : Hp) (F : Ft) (m : M), Mk H H' a F m → m.Ok → Q (.ref F.m) H'
abbrev stN : List Str := ["_law_spring_here", "_law_m", "_law_box", "_law_some", "_law_at", "_law_turn"]
section
variable {P : Program} {w : World} {K : PySem.W.Frag} {mg : Str → Option Value} {base : Heap} {f : Addr} {fd : FuncData}
theorem Mk.marks {H0 H H' : Hp} {a : Addr} {F : Ft} {m : M} (h : Mk H0 H a F m) {z l : Int} (k : Kp F.all H H') (at' : MAt H' F (m.marks z l)) : Mk H0 H' a F (m.marks z l) := by
  refine ⟨h.sp.kp k h.nota, ⟨fun b o hb e => ?_, fun b xs e => ?_⟩, at', h.new, h.out, fun r hr => ?_, h.nota⟩
  · have nb : ¬ b ∈ F.all := fun z => by
      rw [h.new b z] at e
      cases e
    exact k.keep b o nb (h.kp.keep b o hb e)
  · exact k.tups b xs (h.kp.tups b xs e)
  · show byteOk (put (put m.names "zero" z) "less" l (bx r))
    rw [put_less_box, put_zero_box]
    exact h.box r hr
theorem Mk.setN {H0 H : Hp} {a : Addr} {F : Ft} {m : M} (h : Mk H0 H a F m) {r : Nat} {v : Int} (hv : byteOk v) (hr : r < 4) : Mk H0 (upd H F.n (.dK (nkv (put m.names (bx r) v)))) a F { m with names := put m.names (bx r) v } := by
  refine ⟨h.sp.upd' (fun z => h.nota (by rw [← z]; exact in_n F)), h.kp.new (h.new _ (in_n F)), h.at_.setN _, h.new, h.out, fun r' hr' => ?_, h.nota⟩
  show byteOk (put m.names (bx r) v (bx r'))
  by_cases e : r' = r
  · rw [e, put_same]
    exact hv
  · rw [put_ne _ _ fun z => e (bx_inj z)]
    exact h.box r' hr'
theorem bit_of {v : Nat} (h : (v : Int) < 2) : (v : Int) = 0 ∨ (v : Int) = 1 := by omega
abbrev stX (P : Program) (w : World) (K : PySem.W.Frag) (mg : Str → Option Value) (base : Heap) (f : Addr) (cdv : Value) (A : Around) (outer : List Env) (s : Shared) (H : Hp) (E : XK) : Cx := (cxOf CX0 P w K mg base stN "_law_state" (defScope (top 65)) f cdv A outer s H E).nox
theorem state_rest {cdv : Value} {A : Around} {outer : List Env} {s : Shared} {H : Hp} {E : XK} {Q : VK} {a : Addr} (hr : Room 2 (A.deeper (envOfC "_law_state" (defScope (top 65)) s.heap.objs.size f cdv))) (C : Cal P w K mg base 1 "_law_draw" dps spDraw)
    (Cm : Cal P w K mg base 1 "_law_marks" mps spMarks) (gr : mg "range" = none) (q : ∀ (H' : Hp) (F : Ft) (m : M), Mk H H' a F m → m.Ok → Q (.ref F.m) H') :
    ∃ t, PSs (stX P w K mg base f cdv A outer s H E) ((defBody (top 65)).drop 3) t ∧ ∀ (F : Ft) (H' : Hp) (m : M) (u v : Option V), Mk H H' a F m → t { nx := fun _ H' => Q .non H', rt := Q } [some (.ref a), some (.ref F.m), u, v, none, none] H' := by
  have nd : stN.Nodup := by decide +kernel
  have hu := hu_of hr
  have hr1 : Room 1 _ := hr.mono (by decide)
  refine ⟨_, pss_cons (ps_expr (pe_n Cm hr1 rfl (pa_cons (pv 1) (pa_cons (pe_n C hr1 rfl (pa_cons (pv 0) (pa_cons pe_int pa_nil))) (pa_cons (pe_n C hr1 rfl (pa_cons (pv 0) (pa_cons pe_int pa_nil))) pa_nil)))))
      (pss_cons (ps_dput hu (pv 1) pe_str (pe_lc (own := [("_law_at", 4)]) (g := gName 4) (tt := tYes) rfl nd (pi_range1 (by rfl) gr (pa_cons pe_int pa_nil)) (blkOk_by (own := [("_law_at", 4)]) (N := stN) (sc := defScope (top 65)) (by decide +kernel))
          (fun _ _ _ _ _ => pg_name (i := 4) nd rfl (Or.inl rfl)) (fun _ _ _ _ _ => pts_nil)
          (fun _ _ _ _ _ => pe_ix (r := rIxL K) ix_list (pe_lst (pa_cons (pe_n C hr1 rfl (pa_cons (pv 0) (pa_cons pe_int pa_nil))) (pa_cons (pv 4) pa_nil))) (pe_n C hr1 rfl (pa_cons (pv 0) (pa_cons pe_int pa_nil))) (fun _ _ => rfl))) rfl)
      (pss_cons (ps_dput hu (pv 1) pe_str (pe_lc (own := [("_law_turn", 5)]) (g := gName 5) (tt := tYes) rfl nd (pi_range1 (by rfl) gr (pa_cons (pe_n C hr1 rfl (pa_cons (pv 0) (pa_cons pe_int pa_nil))) pa_nil)) (blkOk_by (own := [("_law_turn", 5)]) (N := stN) (sc := defScope (top 65)) (by decide +kernel))
          (fun _ _ _ _ _ => pg_name (i := 5) nd rfl (Or.inl rfl)) (fun _ _ _ _ _ => pts_nil)
          (fun _ _ _ _ _ => pe_n C hr1 rfl (pa_cons (pv 0) (pa_cons pe_int pa_nil)))) rfl)
      (pss_one (ps_ret (pv 1))))), fun F H0 m u v mk => ?_⟩
  refine ⟨_, rfl, _, rfl, a, 2, rfl, by decide, by decide, mk.sp, fun H1 z l1 p1 o1 => ?_⟩
  have mk1 := mk.drawn p1 o1
  refine ⟨_, rfl, a, 2, rfl, by decide, by decide, p1, fun H2 l l2 p2 o2 => ?_⟩
  have mk2 := mk1.drawn p2 o2
  refine ⟨F, m, _, _, _, _, rfl, .inl rfl, .inl rfl, mk2.at_, fun H3 k3 m3 => ?_⟩
  have mk3 := mk2.marks k3 m3
  refine ⟨64, rfl, by decide, by decide, fun D D0 => lc_range (lo := 0) (n := (64 : Int).toNat) (fun i H' => ∃ cs : List Int, cs.length = i ∧ H' D = some (.lst (cs.map V.int)) ∧ Mk H H' a F (m.marks z l)) ?_ ?_ ?_⟩
  · exact ⟨[], rfl, upd_same, mk3.same (new_same D0)⟩
  · have Dn : ¬ D ∈ F.all := mk3.at_.off D0
    have Da : D ≠ a := mk3.sp.ne D0
    have DH : H D = none := mk3.kp.free mk3.sp D0
    rintro i H' hi ⟨cs, hl, hD, mk'⟩
    refine ⟨rfl, _, rfl, a, 256, rfl, by decide, by decide, mk'.sp, fun H5 v5 l5 p5 o5 => ?_⟩
    have mk5 := mk'.drawn p5 o5
    refine ⟨_, rfl, two_line, fun t t0 => ?_⟩
    have mk6 := mk5.same (new_same (o := .lst [.int v5, .int (0 + (i : Int))]) t0)
    have hD6 : upd H5 t (.lst [.int v5, .int (0 + (i : Int))]) D = some (.lst (cs.map V.int)) := new_same t0 _ _ (o5.list Da hD)
    refine ⟨_, rfl, a, 2, rfl, by decide, by decide, mk6.sp, fun H7 v7 l7 p7 o7 => ?_⟩
    have mk7 := mk6.drawn p7 o7
    obtain ⟨n, _, en⟩ := pick2 (x := (v5 : Int)) (y := 0 + (i : Int)) l7
    have ht : H7 t = some (.lst [.int v5, .int (0 + (i : Int))]) := o7.list (p5.ne t0) upd_same
    refine ⟨t, _, _, _, rfl, rfl, SqL.of ht, en, cs.map V.int, o7.list Da hD6, by rw [List.length_map, hl]; exact Nat.lt_of_lt_of_le hi (by decide), cs ++ [n], by rw [List.length_append, hl]; rfl, ?_, mk7.upd' Dn Da DH⟩
    rw [upd_same, List.map_append]
    rfl
  · rintro H4 ⟨cs, hl, hD, mk4⟩
    have Dn : ¬ D ∈ F.all := mk3.at_.off D0
    have Da : D ≠ a := mk3.sp.ne D0
    have DH : H D = none := mk3.kp.free mk3.sp D0
    have Fa : F.m ≠ a := fun e => mk3.nota (by rw [← e]; exact in_m F)
    have put4 := DPut.k (k := Sum.inr "cells") (v := .ref D) mk4.at_.md (mkv_len F)
    rw [put_c] at put4
    refine ⟨_, rfl, F.m, _, rfl, put4, ?_⟩
    -- the machine with its new cells
    have at5 := mk4.at_.newC Dn hD
    have mk5 : Mk H (upd H4 F.m (.dK (mkv { F with c := D }))) a { F with c := D } { m.marks z l with cells := cs } := by
      refine ⟨mk4.sp.upd' Fa, mk4.kp.new (mk4.new _ (in_m F)), at5, fun b hb => ?_, mk4.out, mk4.box, fun hb => ?_⟩
      · rcases mem_all hb with rfl | rfl | rfl | rfl | rfl | rfl | rfl
        · exact mk4.new _ (in_m F)
        · exact mk4.new _ (in_n F)
        · exact DH
        · exact mk4.new _ (in_k F)
        · exact mk4.new _ (by simp [Ft.all])
        · exact mk4.new _ (in_i F)
        · exact mk4.new _ (in_o F)
      · have nt := mk4.nota
        simp only [Ft.all, List.mem_cons, List.not_mem_nil, or_false, not_or] at nt
        rcases mem_all hb with e | e | e | e | e | e | e
        · exact nt.1 e
        · exact nt.2.1 e
        · exact Da e.symm
        · exact nt.2.2.2.1 e
        · exact nt.2.2.2.2.1 e
        · exact nt.2.2.2.2.2.1 e
        · exact nt.2.2.2.2.2.2 e
    refine ⟨_, rfl, a, 17, rfl, by decide, by decide, mk5.sp, fun H6 v6 l6 p6 o6 => ?_⟩
    have mk6 := mk5.drawn p6 o6
    refine ⟨(v6 : Int), rfl, by omega, by omega, fun G G0 => lc_range (lo := 0) (n := (v6 : Int).toNat) (fun i H' => ∃ ks : List Int, ks.length = i ∧ H' G = some (.lst (ks.map V.int)) ∧ Mk H H' a { F with c := D } { m.marks z l with cells := cs }) ?_ ?_ ?_⟩
    · exact ⟨[], rfl, upd_same, mk6.same (new_same G0)⟩
    · have Gn : ¬ G ∈ Ft.all { F with c := D } := mk6.at_.off G0
      have Ga : G ≠ a := mk6.sp.ne G0
      have GH : H G = none := mk6.kp.free mk6.sp G0
      rintro i H' hi ⟨ks, hkl, hG, mk'⟩
      refine ⟨rfl, _, rfl, a, 256, rfl, by decide, by decide, mk'.sp, fun H7 v7 l7 p7 o7 => ?_⟩
      have mk7 := mk'.drawn p7 o7
      refine ⟨ks.map V.int, o7.list Ga hG, by rw [List.length_map, hkl]; exact Nat.lt_of_lt_of_le (show i < 100 by omega) (by decide), ks ++ [(v7 : Int)], by rw [List.length_append, hkl]; rfl, ?_, mk7.upd' Gn Ga GH⟩
      rw [upd_same, List.map_append]
      rfl
    · rintro H8 ⟨ks, hkl, hG, mk8⟩
      have Gn : ¬ G ∈ Ft.all { F with c := D } := mk6.at_.off G0
      have Ga : G ≠ a := mk6.sp.ne G0
      have GH : H G = none := mk6.kp.free mk6.sp G0
      have put8 := DPut.k (k := Sum.inr "kept") (v := .ref G) mk8.at_.md (mkv_len _)
      rw [put_k] at put8
      refine ⟨_, rfl, F.m, _, rfl, put8, _, rfl, ?_⟩
      have at9 := mk8.at_.newK Gn hG
      refine q _ { F with c := D, k := G } { m.marks z l with cells := cs, kept := ks } ⟨mk8.sp.upd' Fa, mk8.kp.new (mk8.new _ (in_m _)), at9, fun b hb => ?_, mk8.out, mk8.box, fun hb => ?_⟩ ⟨mk8.box, ?_, ?_, hl, ?_⟩
      · rcases mem_all hb with rfl | rfl | rfl | rfl | rfl | rfl | rfl
        · exact mk8.new _ (in_m _)
        · exact mk8.new _ (in_n _)
        · exact mk8.new _ (in_c _)
        · exact GH
        · exact mk8.new _ (by simp [Ft.all])
        · exact mk8.new _ (in_i _)
        · exact mk8.new _ (in_o _)
      · have nt := mk8.nota
        simp only [Ft.all, List.mem_cons, List.not_mem_nil, or_false, not_or] at nt
        rcases mem_all hb with e | e | e | e | e | e | e
        · exact nt.1 e
        · exact nt.2.1 e
        · exact nt.2.2.1 e
        · exact Ga e.symm
        · exact nt.2.2.2.2.1 e
        · exact nt.2.2.2.2.2.1 e
        · exact nt.2.2.2.2.2.2 e
      · show put (put m.names "zero" (z : Int)) "less" (l : Int) "zero" = 0 ∨ put (put m.names "zero" (z : Int)) "less" (l : Int) "zero" = 1
        rw [put_less_zero, put_same]
        exact bit_of l1
      · show put (put m.names "zero" (z : Int)) "less" (l : Int) "less" = 0 ∨ put (put m.names "zero" (z : Int)) "less" (l : Int) "less" = 1
        rw [put_same]
        exact bit_of l2
      · show ks.length ≤ 16
        omega
theorem ok_state (F0 : Fun K "_law_state" "_law_state" (top 65) f fd) (C : Cal P w K mg base 1 "_law_draw" dps spDraw) (Ci : Cal P w K mg base 2 "_law_inputs" ["_law_spring_here"] spInputs) (Cf : Cal P w K mg base 1 "_law_fresh" ["_law_inputs_here"] spFresh)
    (Cm : Cal P w K mg base 1 "_law_marks" mps spMarks) (gr : mg "range" = none) : FnOk P w K mg base CX0 3 f fd ["_law_spring_here"] spState := by
  have sc : FnScope stN ["_law_spring_here"] (defScope (top 65)) := sc_by (by decide +kernel)
  refine F0.ok sc (fun vs H Q E h => ?_) fun cdv A outer s H vs Q E hr h => ?_
  · obtain ⟨a, rfl, _⟩ := h
    rfl
  · obtain ⟨a, rfl, sp, q⟩ := h
    have hu := hu_of hr
    have hr1 : Room 1 _ := hr.mono (by decide)
    obtain ⟨t, ht, rest⟩ := state_rest (P := P) (base := base) (cdv := cdv) (A := A) (outer := outer) (s := s) (E := E) hr C Cm gr q
    refine ⟨_, pss_cons (ps_set (i := 1) sc.nd rfl (.inl rfl) (pe_n Cf hr1 rfl (pa_cons (pe_n Ci hr rfl (pa_cons (pv 0) pa_nil)) pa_nil)))
      (pss_cons (ps_for PassesOwn.never rfl (pi_str pe_str) (pg_name (i := 2) sc.nd rfl (.inl rfl))
        (pss_cons (ps_set (i := 3) sc.nd rfl (.inl rfl) (pe_lst (pa_cons (pe_n C hr1 rfl (pa_cons (pv 0) (pa_cons pe_int pa_nil))) (pa_cons (pe_n C hr1 rfl (pa_cons (pv 0) (pa_cons pe_int pa_nil))) (pa_cons (pe_op op_sub pe_int (pe_n C hr1 rfl (pa_cons (pv 0) (pa_cons pe_int pa_nil)))) pa_nil)))))
        (pss_one (ps_dput hu (pe_dget hu (pv 1) pe_str (fun _ _ => rfl)) (pv 2) (pe_ix ix_list (pv 3) (pe_n C hr1 rfl (pa_cons (pv 0) (pa_cons pe_int pa_nil))) (fun _ _ => rfl)) rfl))))
      (pss_cons (ps_if (pt_cmpR op_eq (pe_n C hr1 rfl (pa_cons (pv 0) (pa_cons pe_int pa_nil))) pe_int (nomark _))
        (pss_one (ps_dput hu (pe_dget hu (pv 1) pe_str (fun _ _ => rfl)) pe_str (pe_dget hu (pe_dget hu (pv 1) pe_str (fun _ _ => rfl)) pe_str (fun _ _ => rfl)) rfl)) pss_nil) ht)), ?_⟩
    refine ⟨_, rfl, a, rfl, sp, fun H1 p is p1 k1 p0 hp => ⟨p, is, rfl, hp, fun H2 F s2 new m2 => ?_⟩⟩
    have mk2 : Mk H H2 a F (M.fresh is) := by
      refine ⟨p1.same s2, k1.trans (Kp.of s2), m2, fun b hb => k1.free p1 (new b hb), rfl, fun r _ => (show byteOk 0 from ⟨by decide, by decide⟩), fun z => ?_⟩
      obtain ⟨x, y, c, e, _⟩ := p1
      rw [new a z] at e
      cases e
    refine ⟨_, rfl, for_str (x := "abcd") (fun i σ H' => ∃ (m : M) (u v : Option V), σ = [some (.ref a), some (.ref F.m), u, v, none, none] ∧ Mk H H' a F m) ⟨_, _, _, rfl, mk2⟩ ?_ ?_⟩
    · rintro i c σ H' ec ⟨m, u, v, rfl, mk⟩
      obtain ⟨hi, eb⟩ := abcd_at i c ec
      rw [eb]
      refine ⟨_, rfl, a, 256, rfl, by decide, by decide, mk.sp, fun H3 v3 l3 p3 o3 => ?_⟩
      have mk3 := mk.drawn p3 o3
      refine ⟨_, rfl, a, 3, rfl, by decide, by decide, p3, fun H4 v4 l4 p4 o4 => ?_⟩
      have mk4 := mk3.drawn p4 o4
      refine ⟨_, rfl, a, 3, rfl, by decide, by decide, p4, fun H5 v5 l5 p5 o5 => ⟨_, _, rfl, rfl, three_line, fun l l0 => ?_⟩⟩
      have mk5 := (mk4.drawn p5 o5).same (new_same (o := .lst [.int v3, .int v4, .int (255 - (v5 : Int))]) l0)
      refine ⟨_, rfl, _, rfl, a, 3, rfl, by decide, by decide, mk5.sp, fun H6 v6 l6 p6 o6 => ?_⟩
      have mk6 := mk5.drawn p6 o6
      have hl : H6 l = some (.lst [.int v3, .int v4, .int (255 - (v5 : Int))]) := o6.list (p5.ne l0) upd_same
      obtain ⟨n, nb, en⟩ := pick3 (byte_of l3 (by decide)) (byte_of l4 (by decide)) (show byteOk (255 - (v5 : Int)) from ⟨by omega, by omega⟩) l6
      refine ⟨l, _, _, _, rfl, rfl, SqL.of hl, en, _, rfl, F.m, _, rfl, mk6.at_.get (mv_n F), _, rfl, F.n, _, rfl, mk6.at_.putN (box_key i hi), ?_⟩
      exact ⟨_, _, _, rfl, mk6.setN nb hi⟩
    · rintro σ H' ⟨m, u, v, rfl, mk⟩
      refine ⟨_, rfl, a, 3, rfl, by decide, by decide, mk.sp, fun H3 v3 l3 p3 o3 => ?_⟩
      have mk3 := mk.drawn p3 o3
      refine ⟨rfl, _, rfl, ite2 (fun _ => ?_) (fun _ => rest F _ _ _ _ mk3)⟩
      have ka : ("a" : Str) ∈ keys := by rw [bx0]; exact box_key 0 (by decide)
      have kb : ("b" : Str) ∈ keys := by rw [bx1]; exact box_key 1 (by decide)
      refine ⟨_, rfl, F.m, _, rfl, mk3.at_.get (mv_n F), F.n, _, rfl, mk3.at_.name ka, _, rfl, F.m, _, rfl, mk3.at_.get (mv_n F), F.n, _, rfl, mk3.at_.putN kb, ?_⟩
      have nb : byteOk (m.names "a") := by rw [bx0]; exact mk3.box 0 (by decide)
      have mk4 := mk3.setN (r := 1) nb (by decide)
      rw [← bx1] at mk4
      exact rest F _ _ _ _ mk4
end
end Rwl

/-! W18: a copied machine. -/
namespace Rwl
open PySem PySem.Spec PyProof.Rows L2

def cont (m : M) : Nat → HO
  | 0 => .dK (nkv m.names)
  | 1 => .lst (m.cells.map V.int)
  | 2 => .lst (m.kept.map V.int)
  | 3 => .lst []
  | 4 => .lst (m.inputs.map V.int)
  | _ => .lst (m.outs.map V.int)
def ents (as : List Addr) : List (Key × V) := (mKeys.zip as).map fun p => ((Sum.inr p.1 : Key), V.ref p.2)
theorem slot {H : Hp} {F : Ft} {m : M} (h : MAt H F m) (i : Nat) (hi : i < 6) : ∃ (x : Str) (s : Addr), (mkv F)[i]? = some ((Sum.inr x : Key), V.ref s) ∧ valV (mkv F) (Sum.inr x) = some (.ref s) ∧ H s = some (cont m i) ∧ s ≠ F.m ∧ mKeys[i]? = some x ∧
    ((x = "names" ∧ ∃ kvs, cont m i = .dK kvs) ∨ (¬ x = "names" ∧ ∃ xs, cont m i = .lst xs)) := by
  have a := apart_of h.nd
  have hc : i = 0 ∨ i = 1 ∨ i = 2 ∨ i = 3 ∨ i = 4 ∨ i = 5 := by omega
  rcases hc with rfl | rfl | rfl | rfl | rfl | rfl
  · exact ⟨_, _, rfl, mv_n F, h.nm, a.mn.symm, rfl, .inl ⟨rfl, _, rfl⟩⟩
  · exact ⟨_, _, rfl, mv_c F, h.cl, a.mc.symm, rfl, .inr ⟨by decide +kernel, _, rfl⟩⟩
  · exact ⟨_, _, rfl, mv_k F, h.kp, a.m_k.symm, rfl, .inr ⟨by decide +kernel, _, rfl⟩⟩
  · exact ⟨_, _, rfl, mv_p F, h.pl, a.mp.symm, rfl, .inr ⟨by decide +kernel, _, rfl⟩⟩
  · exact ⟨_, _, rfl, mv_i F, h.inp, a.mi.symm, rfl, .inr ⟨by decide +kernel, _, rfl⟩⟩
  · exact ⟨_, _, rfl, mv_o F, h.out, a.mo.symm, rfl, .inr ⟨by decide +kernel, _, rfl⟩⟩
theorem val_none {kvs : List (Key × V)} {k : Key} (h : ¬ k ∈ kvs.map (·.1)) : valV kvs k = none := by
  cases e : valV kvs k with
  | none => rfl
  | some v => exact absurd (valV_in e) h
theorem ents_put (as : List Addr) (x : Str) (p : Addr) (h : mKeys[as.length]? = some x) : putK (ents as) (Sum.inr x) (.ref p) = ents (as ++ [p]) := by
  have fin : valV (ents as) (Sum.inr x) = none → putK (ents as) (Sum.inr x) (.ref p) = ents as ++ [(Sum.inr x, .ref p)] := fun e => putK_new _ e
  match as, h with
  | [], h =>
    cases h
    rfl
  | [a0], h =>
    cases h
    exact fin (by show valV [((Sum.inr "names" : Key), V.ref a0)] _ = _; rw [valV_neg nc_]; rfl)
  | [a0, a1], h =>
    cases h
    exact fin (by show valV [((Sum.inr "names" : Key), V.ref a0), (Sum.inr "cells", .ref a1)] _ = _; rw [valV_neg nk_, valV_neg ck_]; rfl)
  | [a0, a1, a2], h =>
    cases h
    exact fin (by show valV [((Sum.inr "names" : Key), V.ref a0), (Sum.inr "cells", .ref a1), (Sum.inr "kept", .ref a2)] _ = _; rw [valV_neg np_, valV_neg cp_, valV_neg kp_]; rfl)
  | [a0, a1, a2, a3], h =>
    cases h
    exact fin (by show valV [((Sum.inr "names" : Key), V.ref a0), (Sum.inr "cells", .ref a1), (Sum.inr "kept", .ref a2), (Sum.inr "places", .ref a3)] _ = _; rw [valV_neg ni_, valV_neg ci_, valV_neg ki_, valV_neg pi_]; rfl)
  | [a0, a1, a2, a3, a4], h =>
    cases h
    exact fin (by show valV [((Sum.inr "names" : Key), V.ref a0), (Sum.inr "cells", .ref a1), (Sum.inr "kept", .ref a2), (Sum.inr "places", .ref a3), (Sum.inr "inputs", .ref a4)] _ = _; rw [valV_neg no_, valV_neg co_, valV_neg ko_, valV_neg po_, valV_neg io_]; rfl)
  | a0 :: a1 :: a2 :: a3 :: a4 :: a5 :: r, h => cases h
theorem ents_len (as : List Addr) : (ents as).length < sizeLine := by
  unfold ents
  rw [List.length_map, List.length_zip]
  exact Nat.lt_of_le_of_lt (Nat.min_le_left _ _) (by decide)
/-- the keys of a locked dict, one by one -/
theorem for_keys {d : Addr} {o : Obj} {kvs : List (Key × V)} {g : TG} {tb : TS} {D : Ends} {σ : L2.St} {H : Hp} (Pv : Nat → L2.St → Hp → Prop) (h0 : Pv 0 σ H) (hl : ∀ i σ H, Pv i σ H → H d = some (.frz o (.dK kvs)))
    (hs : ∀ i k v σ H, kvs[i]? = some (k, v) → Pv i σ H → g (kV k) σ H fun σ2 H2 => tb { D with nx := Pv (i + 1), ct := Pv (i + 1), bk := D.nx } σ2 H2) (hd : ∀ σ H, Pv kvs.length σ H → D.nx σ H) :
    ∃ W : Nat → Nat → L2.St → Hp → Prop, (∃ m, W 0 m σ H) ∧ ∀ i m σ H, W i m σ H →
      ((Itk d o kvs).stop i H ∧ D.nx σ H) ∨ ((Itk d o kvs).go i H ∧ ∃ N : L2.St → Hp → Prop, (∀ σ' H', N σ' H' → ∃ m', m' < m ∧ W (i + 1) m' σ' H') ∧ ∀ x H', (Itk d o kvs).yld i H x H' → g x σ H' fun σ2 H2 => tb { D with nx := N, ct := N, bk := D.nx } σ2 H2) := by
  refine ⟨fun i m σ H => m = kvs.length - i ∧ i ≤ kvs.length ∧ Pv i σ H, ⟨_, rfl, Nat.zero_le _, h0⟩, fun i m σ H hw => ?_⟩
  obtain ⟨em, le, p⟩ := hw
  by_cases lt : i < kvs.length
  · refine .inr ⟨⟨hl i σ H p, lt⟩, Pv (i + 1), fun σ' H' p' => ⟨kvs.length - (i + 1), by omega, rfl, lt, p'⟩, fun x H' yl => ?_⟩
    obtain ⟨eH, k, v, ek, ex⟩ := yl
    subst eH ex
    exact hs i k v σ _ ek p
  · have ei : i = kvs.length := by omega
    subst ei
    exact .inl ⟨⟨hl _ σ H p, Nat.le_refl _⟩, hd σ H p⟩
def spCopied : Sp := fun vs H Q _ => ∃ (F : Ft) (m : M), vs = [.ref F.m] ∧ MAt H F m ∧ ∀ (H' : Hp) (G : Ft), Same H H' → MAt H' G m → (∀ b ∈ G.all, H b = none) → Q (.ref G.m) H'
/-- how far the copying is -/
structure Cop (H : Hp) (F : Ft) (m : M) (od : Obj) (fd : Addr) (i : Nat) (as : List Addr) (H' : Hp) : Prop where
  len : as.length = i
  fnd : H' fd = some (.dK (ents as))
  lock : H' F.m = some (.frz od (.dK (mkv F)))
  keep : ∀ b o, b ≠ F.m → H b = some o → H' b = some o
  copy : ∀ (j : Nat) (a : Addr), as[j]? = some a → H' a = some (cont m j) ∧ H a = none ∧ a ≠ fd
  nd : as.Nodup
theorem Cop.step {H : Hp} {F : Ft} {m : M} {od : Obj} {fd : Addr} {i : Nat} {as : List Addr} {H' : Hp} (c : Cop H F m od fd i as H') (f0 : H fd = none) (fm : fd ≠ F.m) {x : Str} (hx : mKeys[i]? = some x) {p : Addr} (np : H' p = none) :
    Cop H F m od fd (i + 1) (as ++ [p]) (upd (upd H' p (cont m i)) fd (.dK (putK (ents as) (Sum.inr x) (.ref p)))) := by
  have pf : p ≠ fd := (ne_of_none c.fnd np).symm
  have pm : p ≠ F.m := (ne_of_none c.lock np).symm
  have pas : ∀ j a, as[j]? = some a → a ≠ p := fun j a e => ne_of_none (c.copy j a e).1 np
  have hp0 : H p = none := by
    cases e : H p with
    | none => rfl
    | some o =>
      have q := c.keep p o pm e
      rw [np] at q
      cases q
  have li := c.len
  rw [ents_put as x p (by rw [li]; exact hx)]
  refine ⟨by rw [List.length_append, li]; rfl, upd_same, ?_, fun b o hb e => ?_, fun j a e => ?_, ?_⟩
  · rw [upd_ne fm.symm, upd_ne pm.symm]
    exact c.lock
  · rw [upd_ne (ne_of_none e f0), upd_ne (ne_of_none e hp0)]
    exact c.keep b o hb e
  · by_cases hj : j < as.length
    · rw [List.getElem?_append_left hj] at e
      obtain ⟨e1, e2, e3⟩ := c.copy j a e
      refine ⟨?_, e2, e3⟩
      rw [upd_ne e3, upd_ne (pas j a e)]
      exact e1
    · rw [List.getElem?_append_right (by omega)] at e
      have j0 : j - as.length = 0 := by
        have q := (List.getElem?_eq_some_iff.mp e).1
        simp at q
        omega
      rw [j0] at e
      cases e
      have ji : j = i := by omega
      subst ji
      refine ⟨?_, hp0, pf⟩
      rw [upd_ne pf]
      exact upd_same
  · rw [List.nodup_append]
    refine ⟨c.nd, List.nodup_cons.mpr ⟨List.not_mem_nil, List.nodup_nil⟩, fun a ha b hb => ?_⟩
    rw [List.mem_singleton.mp hb]
    obtain ⟨j, ej⟩ := List.getElem?_of_mem ha
    exact pas j a ej
section
variable {P : Program} {w : World} {K : PySem.W.Frag} {mg : Str → Option Value} {base : Heap} {f : Addr} {fd : FuncData}
abbrev cpN : List Str := ["_law_m", "_law_found", "_law_one"]
theorem ok_copied (F0 : Fun K "_law_copied" "_law_copied" (top 66) f fd) (gd : mg "dict" = none) (gl : mg "list" = none) : FnOk P w K mg base CX0 1 f fd ["_law_m"] spCopied := by
  have sc : FnScope cpN ["_law_m"] (defScope (top 66)) := sc_by (by decide +kernel)
  refine F0.ok sc (fun vs H Q E h => ?_) fun cdv A outer s H vs Q E hr h => ?_
  · obtain ⟨F, m, rfl, _⟩ := h
    rfl
  · obtain ⟨F, m, rfl, hm, q⟩ := h
    have hu := hu_of hr
    refine ⟨_, pss_cons (ps_set (i := 1) sc.nd rfl (.inl rfl) pe_dnewK)
      (pss_cons (ps_lock (ps_for PassesOwn.never rfl (pi_keys (pv 0)) (pg_name (i := 2) sc.nd rfl (.inl rfl))
        (pss_one (ps_dput hu (pv 1) (pv 2) (pe_ifExp (pt_cmpR op_eq (pv 2) pe_str (nomark _))
          (pe_callTy call_dictD (by rfl) gd (by decide +kernel) (pa_cons (pe_dget hu (pv 0) (pv 2) (fun _ _ => rfl)) pa_nil))
          (pe_callTy call_list_of (by rfl) gl (by decide +kernel) (pa_cons (pe_dget hu (pv 0) (pv 2) (fun _ _ => rfl)) pa_nil))) rfl))))
      (pss_one (ps_ret (pv 1)))), ?_⟩
    intro fd0 f0
    have s1 := new_same (o := .dK []) f0
    have fm : fd0 ≠ F.m := (ne_of_none hm.md f0).symm
    refine ⟨F.m, .dK (mkv F), s1 _ _ hm.md, trivial, fun od => ?_⟩
    have hl0 : upd (upd H fd0 (.dK [])) F.m (.frz od (.dK (mkv F))) F.m = some (.frz od (.dK (mkv F))) := upd_same
    have c0 : Cop H F m od fd0 0 [] (upd (upd H fd0 (.dK [])) F.m (.frz od (.dK (mkv F)))) := by
      refine ⟨rfl, ?_, upd_same, fun b o hb e => ?_, fun j a e => ?_, List.nodup_nil⟩
      · rw [upd_ne fm]
        exact upd_same
      · rw [upd_ne hb]
        exact s1 _ _ e
      · cases e
    refine ⟨_, rfl, F.m, od, rfl, .inl ⟨mkv F, hl0, for_keys (fun i σ H' => ∃ (as : List Addr) (u : Option V), σ = [some (.ref F.m), some (.ref fd0), u] ∧ Cop H F m od fd0 i as H') ⟨[], none, rfl, c0⟩ (fun i σ H' ⟨_, _, _, c⟩ => c.lock) ?_ ?_⟩⟩
    · rintro i k v σ H' ek ⟨as, u, rfl, c⟩
      have hi : i < 6 := (List.getElem?_eq_some_iff.mp ek).1
      obtain ⟨x, s', e1, e2, e3, e4, e5, e6⟩ := slot hm i hi
      rw [e1] at ek
      have ekk := Option.some.inj ek
      have hk : (Sum.inr x : Key) = k := congrArg Prod.fst ekk
      subst hk
      have hs' : H' s' = some (cont m i) := c.keep s' _ e4 e3
      have get : DGet H' F.m (.str x) (some (.ref s')) := .inl ⟨mkv F, Sum.inr x, .inr ⟨od, c.lock⟩, rfl, e2.symm⟩
      have fin : ∀ p, H' p = none → ∃ a H4, V.ref fd0 = V.ref a ∧ DPut (upd H' p (cont m i)) a (.str x) (.ref p) H4 ∧ ∃ (as' : List Addr) (u : Option V), [some (V.ref F.m), some (.ref fd0), some (.str x)] = [some (.ref F.m), some (.ref fd0), u] ∧ Cop H F m od fd0 (i + 1) as' H4 := by
        intro p np
        have hf : upd H' p (cont m i) fd0 = some (.dK (ents as)) := by
          rw [upd_ne (ne_of_none c.fnd np)]
          exact c.fnd
        exact ⟨fd0, _, rfl, DPut.k (k := Sum.inr x) hf (ents_len as), as ++ [p], _, rfl, c.step f0 fm e5 np⟩
      rcases e6 with ⟨ex, kvs, ec⟩ | ⟨ex, xs, ec⟩
      · refine ⟨_, rfl, rfl, _, rfl, ifT (dec_str_eq ex) ?_⟩
        rw [ec] at fin hs'
        exact ⟨_, rfl, _, rfl, F.m, _, rfl, get, s', kvs, rfl, .inl hs', fun p np => ⟨_, rfl, _, rfl, fin p np⟩⟩
      · refine ⟨_, rfl, rfl, _, rfl, ifF (dec_str_ne ex) ?_⟩
        rw [ec] at fin hs'
        exact ⟨_, rfl, _, rfl, F.m, _, rfl, get, s', xs, rfl, .inl (SqL.of hs'), fun p np => ⟨_, rfl, _, rfl, fin p np⟩⟩
    · rintro σ H' ⟨as, u, rfl, c⟩
      refine ⟨c.lock, _, rfl, ?_⟩
      obtain ⟨n, c', k', p', i', o', eas⟩ : ∃ n c k p i o, as = [n, c, k, p, i, o] := by
        have l6 : as.length = 6 := c.len
        match as, l6 with
        | [a0, a1, a2, a3, a4, a5], _ => exact ⟨a0, a1, a2, a3, a4, a5, rfl⟩
      subst eas
      have g0 := c.copy 0 n rfl
      have g1 := c.copy 1 c' rfl
      have g2 := c.copy 2 k' rfl
      have g3 := c.copy 3 p' rfl
      have g4 := c.copy 4 i' rfl
      have g5 := c.copy 5 o' rfl
      have off : ∀ b, H b = none → b ≠ F.m := fun b e z => by
        rw [z, hm.md] at e
        cases e
      refine q _ ⟨fd0, n, c', k', p', i', o'⟩ (fun b o e => ?_) ⟨?_, ?_, ?_, ?_, ?_, ?_, ?_, ?_⟩ (fun b hb => ?_)
      · by_cases z : b = F.m
        · rw [z] at e ⊢
          rw [hm.md] at e
          cases e
          exact upd_same
        · rw [upd_ne z]
          exact c.keep b o z e
      · rw [upd_ne fm]
        exact c.fnd
      · rw [upd_ne (off _ g0.2.1)]
        exact g0.1
      · rw [upd_ne (off _ g1.2.1)]
        exact g1.1
      · rw [upd_ne (off _ g2.2.1)]
        exact g2.1
      · rw [upd_ne (off _ g3.2.1)]
        exact g3.1
      · rw [upd_ne (off _ g4.2.1)]
        exact g4.1
      · rw [upd_ne (off _ g5.2.1)]
        exact g5.1
      · refine List.nodup_cons.mpr ⟨fun z => ?_, c.nd⟩
        obtain ⟨j, ej⟩ := List.getElem?_of_mem z
        exact (c.copy j _ ej).2.2 rfl
      · rcases mem_all hb with rfl | rfl | rfl | rfl | rfl | rfl | rfl
        · exact f0
        · exact g0.2.1
        · exact g1.2.1
        · exact g2.2.1
        · exact g3.2.1
        · exact g4.2.1
        · exact g5.2.1
end
end Rwl

/-! W19: a statement done. -/
namespace Rwl
open PySem PySem.Spec PyProof.Rows L2

def Stm.word : Stm → Str
  | .set _ _ => "set"
  | .cell _ _ => "cell"
  | .out _ => "out"
  | .keep _ => "keep"
  | .inn _ => "in"
  | .take _ => "take"
def Stm.args : Stm → List (Option Ex)
  | .set _ e => [none, some e]
  | .cell p e => [some p, some e]
  | .out e => [some e]
  | .keep e => [some e]
  | .inn _ => [none]
  | .take _ => [none]
def exOk (e : Ex) : Prop := e.ok ∧ e.depth ≤ 3
def Stm.ok : Stm → Prop
  | .set x e => x ∈ keys ∧ exOk e
  | .cell p e => exOk p ∧ exOk e
  | .out e => exOk e
  | .keep e => exOk e
  | .inn x => x ∈ keys
  | .take x => x ∈ keys
def ItAt (K : PySem.W.Frag) (H : Hp) (v : V) : Option Ex → Prop
  | none => ∃ x, v = .str x
  | some e => EAt K H v e
def ItsAt (K : PySem.W.Frag) (H : Hp) : List V → List (Option Ex) → Prop
  | [], [] => True
  | v :: vs, o :: os => ItAt K H v o ∧ ItsAt K H vs os
  | _, _ => False
theorem ItsAt.get {K : PySem.W.Frag} {H : Hp} : ∀ {vs : List V} {os : List (Option Ex)}, ItsAt K H vs os → ∀ {i : Nat} {v : V}, vs[i]? = some v → ∃ o, os[i]? = some o ∧ ItAt K H v o
  | [], [], _, i, v, e => by simp at e
  | _ :: _, o :: _, ⟨h, _⟩, 0, v, e => by
    cases e
    exact ⟨o, rfl, h⟩
  | _ :: _, _ :: _, ⟨_, r⟩, i + 1, v, e => ItsAt.get r (i := i) e
  | [], _ :: _, h, _, _, _ => (show False from h).elim
  | _ :: _, [], h, _, _, _ => (show False from h).elim
theorem ItsAt.len {K : PySem.W.Frag} {H : Hp} : ∀ {vs : List V} {os : List (Option Ex)}, ItsAt K H vs os → vs.length = os.length
  | [], [], _ => rfl
  | _ :: _, _ :: _, ⟨_, r⟩ => congrArg (· + 1) r.len
  | [], _ :: _, h => (show False from h).elim
  | _ :: _, [], h => (show False from h).elim
def Stm.nameOf : Stm → Option Str
  | .set x _ => some x
  | .inn x => some x
  | .take x => some x
  | _ => none
theorem StAt.split {K : PySem.W.Frag} {H : Hp} {v : V} {s : Stm} (h : StAt K H v s) : ∃ a rest, v = .ref a ∧ TupAt K H a (.str s.word :: rest) ∧ ItsAt K H rest s.args ∧ ∀ x, s.nameOf = some x → rest[0]? = some (.str x) := by
  cases s with
  | set x e =>
    obtain ⟨a, u, e1, h1, h2⟩ := h
    exact ⟨a, _, e1, h1, ⟨⟨x, rfl⟩, h2, trivial⟩, fun y e => by cases e; rfl⟩
  | cell p e =>
    obtain ⟨a, u1, u2, e1, h1, h2, h3⟩ := h
    exact ⟨a, _, e1, h1, ⟨h2, h3, trivial⟩, fun y e => by cases e⟩
  | out e =>
    obtain ⟨a, u, e1, h1, h2⟩ := h
    exact ⟨a, _, e1, h1, ⟨h2, trivial⟩, fun y e => by cases e⟩
  | keep e =>
    obtain ⟨a, u, e1, h1, h2⟩ := h
    exact ⟨a, _, e1, h1, ⟨h2, trivial⟩, fun y e => by cases e⟩
  | inn x =>
    obtain ⟨a, e1, h1⟩ := h
    exact ⟨a, _, e1, h1, ⟨⟨x, rfl⟩, trivial⟩, fun y e => by cases e; rfl⟩
  | take x =>
    obtain ⟨a, e1, h1⟩ := h
    exact ⟨a, _, e1, h1, ⟨⟨x, rfl⟩, trivial⟩, fun y e => by cases e; rfl⟩
theorem EAt.tup {K : PySem.W.Frag} {H : Hp} {v : V} {e : Ex} (h : EAt K H v e) : ∃ a xs, v = .ref a ∧ TupAt K H a xs := by
  cases e with
  | num n =>
    obtain ⟨a, e, h⟩ := h
    exact ⟨a, _, e, h⟩
  | name x =>
    obtain ⟨a, e, h⟩ := h
    exact ⟨a, _, e, h⟩
  | cell e =>
    obtain ⟨a, u, e, h, _⟩ := h
    exact ⟨a, _, e, h⟩
  | not e =>
    obtain ⟨a, u, e, h, _⟩ := h
    exact ⟨a, _, e, h⟩
  | bin o e1 e2 =>
    obtain ⟨a, u1, u2, e, h, _⟩ := h
    exact ⟨a, _, e, h⟩
theorem TupAt.ty {K : PySem.W.Frag} {H : Hp} {a : Addr} {xs : List V} (h : TupAt K H a xs) : TyX K H (.ref a) (.type "tuple") := by
  rcases h with h | ⟨o, its, n, l, c, _⟩
  · exact .base (.tup h)
  · exact .kTuple l c
theorem cut_one (x : V) (xs : List V) : cutV (x :: xs) (some 1) none = xs := by
  unfold cutV
  rw [HT.sIx_none]
  have e : HT.sIx (x :: xs).length 0 (some ((1 : Nat) : Int)) = 1 := by
    rw [HT.sIx_nat]
    simp
  have e' : HT.sIx (x :: xs).length 0 (some 1) = 1 := e
  rw [e']
  simp
theorem cut_not (x : V) (xs : List V) : ¬ (HT.sIx (x :: xs).length 0 (some 1) = 0 ∧ HT.sIx (x :: xs).length (x :: xs).length none = (x :: xs).length) := by
  have e : HT.sIx (x :: xs).length 0 (some ((1 : Nat) : Int)) = 1 := by
    rw [HT.sIx_nat]
    simp
  have e' : HT.sIx (x :: xs).length 0 (some 1) = 1 := e
  rw [e']
  exact fun h => absurd h.1 (by decide)
theorem Tups.trans' {H H1 H2 : Hp} (h : Tups H H1) (h' : Tups H1 H2) : Tups H H2 := fun b xs e => h' b xs (h b xs e)
/-- the worths of the arguments so far -/
def nows (m : M) (os : List (Option Ex)) : List Int := (os.filterMap id).map m.w
theorem nows_none (m : M) {os : List (Option Ex)} {i : Nat} (h : os[i]? = some none) : nows m (os.take (i + 1)) = nows m (os.take i) := by
  unfold nows
  rw [List.take_add_one, h, List.filterMap_append]
  simp
theorem nows_some (m : M) {os : List (Option Ex)} {i : Nat} {e : Ex} (h : os[i]? = some (some e)) : nows m (os.take (i + 1)) = nows m (os.take i) ++ [m.w e] := by
  unfold nows
  rw [List.take_add_one, h, List.filterMap_append, List.map_append]
  simp
theorem nows_len (m : M) (os : List (Option Ex)) : (nows m os).length ≤ os.length := by
  unfold nows
  rw [List.length_map]
  exact List.length_filterMap_le _ _
theorem args_len (s : Stm) : s.args.length ≤ 2 := by cases s <;> simp [Stm.args]
theorem args_ok {s : Stm} (h : s.ok) {i : Nat} {e : Ex} (g : s.args[i]? = some (some e)) : exOk e := by
  cases s with
  | set x e' =>
    match i, g with
    | 0, g => cases g
    | 1, g => cases g; exact h.2
    | i + 2, g => simp [Stm.args] at g
  | cell p e' =>
    match i, g with
    | 0, g => cases g; exact h.1
    | 1, g => cases g; exact h.2
    | i + 2, g => simp [Stm.args] at g
  | out e' =>
    match i, g with
    | 0, g => cases g; exact h
    | i + 1, g => simp [Stm.args] at g
  | keep e' =>
    match i, g with
    | 0, g => cases g; exact h
    | i + 1, g => simp [Stm.args] at g
  | inn x =>
    match i, g with
    | 0, g => cases g
    | i + 1, g => simp [Stm.args] at g
  | take x =>
    match i, g with
    | 0, g => cases g
    | i + 1, g => simp [Stm.args] at g
def spStated (K : PySem.W.Frag) : Sp := fun vs H Q _ => ∃ (F : Ft) (m : M) (v : V) (s : Stm), vs = [.ref F.m, v] ∧ StAt K H v s ∧ s.ok ∧ m.cells.length = 64 ∧ m.kept.length ≤ 16 ∧ m.outs.length ≤ 16 ∧ MAt H F m ∧
  ∀ H', Kp F.all H H' → MAt H' F (m.stated s).1 → Q (endV (m.stated s).2) H'
abbrev sdN : List Str := ["_law_m", "_law_statement", "_law_word", "_law_now", "_law_e"]
abbrev sdps : List Str := ["_law_m", "_law_statement"]
section
variable {P : Program} {w : World} {K : PySem.W.Frag} {mg : Str → Option Value} {base : Heap} {f : Addr} {fd : FuncData}
theorem ok_stated (F0 : Fun K "_law_stated" "_law_stated" (top 67) f fd) (C : Cal P w K mg base 8 "worth_of" wps (spWorth K 3)) (gl : mg "len" = none) (gi : mg "isinstance" = none) (gt : mg "tuple" = none) : FnOk P w K mg base CX0 9 f fd sdps (spStated K) := by
  have sc : FnScope sdN sdps (defScope (top 67)) := sc_by (by decide +kernel)
  refine F0.ok sc (fun vs H Q E h => ?_) fun cdv A outer s H vs Q E hr h => ?_
  · obtain ⟨F, m, v, s, rfl, _⟩ := h
    rfl
  · obtain ⟨F, m, v, st, rfl, hs, hok, hc, hkl, hol, hm, q⟩ := h
    obtain ⟨t, rest, rfl, ht, its, nameAt⟩ := hs.split
    have hu := hu_of hr
    refine ⟨_, pss_cons (ps_set (i := 2) sc.nd rfl (.inl rfl) (pe_ix ix_tup (pv 1) pe_int (fun _ _ => rfl)))
      (pss_cons (ps_setLc (i := 3) (own := [("_law_e", 4)]) (g := gName 4) (tt := tTest (tOp (fun x y H Q => rIsi K [x, y] H Q) (tVar 4) (tC (.ty "tuple")))) (by rfl) sc.nd rfl rfl (sw_true rfl rfl rfl (by decide +kernel)) (pi_tup (pe_slice sl_tup (pv 1) (po_some pe_int) po_none)) (blkOk_by (own := [("_law_e", 4)]) (N := sdN) (sc := defScope (top 67)) (by decide +kernel))
        (fun _ _ _ _ _ => pg_name (i := 4) sc.nd rfl (Or.inl rfl)) (fun _ _ _ _ _ => pts_one (pt_val (pe_callB (r := rIsi K) call_isi (by rfl) gi (by decide +kernel) (pa_cons (pv 4) (pa_cons (pe_bltn (v := .ty "tuple") (by rfl) gt (by decide +kernel) rfl) pa_nil)))))
        (fun _ _ _ _ _ => pe_n C hr rfl (pa_cons (pv 4) (pa_cons (pe_dget hu (pv 0) pe_str (fun _ _ => rfl)) (pa_cons (pe_dget hu (pv 0) pe_str (fun _ _ => rfl)) pa_nil)))))
      (pss_cons (ps_if (pt_cmpR op_eq (pv 2) pe_str (nomark _))
        (pss_one (ps_dput hu (pe_dget hu (pv 0) pe_str (fun _ _ => rfl)) (pe_ix ix_tup (pv 1) pe_int (fun _ _ => rfl)) (pe_ix ix_list (pv 3) pe_int (fun _ _ => rfl)) rfl))
        (pss_one (ps_if (pt_cmpR op_eq (pv 2) pe_str (nomark _))
          (pss_one (ps_asg (pe_ix ix_list (pv 3) pe_int (fun _ _ => rfl)) (pg_sub (pe_dget hu (pv 0) pe_str (fun _ _ => rfl)) (pe_op op_mod (pe_ix ix_list (pv 3) pe_int (fun _ _ => rfl)) pe_int) set_list)))
          (pss_one (ps_if (pt_cmpR op_eq (pv 2) pe_str (nomark _))
            (pss_one (ps_expr (pe_bm PySem.F.plainAttrs_list PySem.F.slot_list_append PySem.F.type_list_append mt_append (pe_dget hu (pv 0) pe_str (fun _ _ => rfl)) (pa_cons (pe_ix ix_list (pv 3) pe_int (fun _ _ => rfl)) pa_nil))))
            (pss_one (ps_if (pt_cmpR op_eq (pv 2) pe_str (nomark _))
              (pss_cons (ps_if (pt_cmpR op_eq (pe_callB call_len_seq (by rfl) gl PySem.boot_len (pa_cons (pe_dget hu (pv 0) pe_str (fun _ _ => rfl)) pa_nil)) pe_int (nomark _)) (pss_one (ps_ret pe_str)) pss_nil)
              (pss_one (ps_expr (pe_bm PySem.F.plainAttrs_list PySem.F.slot_list_append PySem.F.type_list_append mt_append (pe_dget hu (pv 0) pe_str (fun _ _ => rfl)) (pa_cons (pe_ix ix_list (pv 3) pe_int (fun _ _ => rfl)) pa_nil)))))
              (pss_one (ps_if (pt_cmpR op_eq (pv 2) pe_str (nomark _))
                (pss_one (ps_dput hu (pe_dget hu (pv 0) pe_str (fun _ _ => rfl)) (pe_ix ix_tup (pv 1) pe_int (fun _ _ => rfl)) (pe_ifExp (pt_cmpR (op_neD hr.units) (pe_dget hu (pv 0) pe_str (fun _ _ => rfl)) (pe_lst pa_nil) (nomark _))
                  (pe_bm PySem.F.plainAttrs_list PySem.F.slot_list_pop PySem.F.type_list_pop mt_popAt (pe_dget hu (pv 0) pe_str (fun _ _ => rfl)) (pa_cons pe_int pa_nil)) pe_int) rfl))
                (pss_one (ps_if (pt_cmpR (op_eqD hr.units) (pe_dget hu (pv 0) pe_str (fun _ _ => rfl)) (pe_lst pa_nil) (nomark _)) (pss_one (ps_ret pe_str))
                  (pss_one (ps_dput hu (pe_dget hu (pv 0) pe_str (fun _ _ => rfl)) (pe_ix ix_tup (pv 1) pe_int (fun _ _ => rfl)) (pe_bm0 PySem.F.plainAttrs_list PySem.F.slot_list_pop PySem.F.type_list_pop mt_pop (pe_dget hu (pv 0) pe_str (fun _ _ => rfl))) rfl)))))))))))))
      (pss_one (ps_ret pe_non)))), ?_⟩
    have hz : rest.length = st.args.length := its.len
    refine ⟨_, rfl, t, _, 0, _, rfl, rfl, ht.sq, at_zero _ _, ?_⟩
    refine ⟨_, rfl, 1, rfl, t, _, rfl, ht.sq, cut_not _ _, fun p np => ?_⟩
    rw [cut_one]
    have s1 := new_same (o := .tup rest) np
    have hm1 := hm.same s1
    have its1 : ∀ {i : Nat} {v : V}, rest[i]? = some v → ∃ o, st.args[i]? = some o ∧ ItAt K H v o := fun e => its.get e
    refine ⟨p, rfl, ⟨rest, SqT.of upd_same⟩, fun D D0 => lc_tup (K := K) (a := p) (xs := rest) (fun i H' => Same (upd H p (.tup rest)) H' ∧ H' D = some (.lst ((nows m (st.args.take i)).map V.int)))
      ⟨new_same D0, upd_same⟩ (fun i H' _ h => SqT.of (h.1 _ _ upd_same)) ?_ ?_⟩
    · rintro i x H' hi ⟨sm, hD⟩
      obtain ⟨o, eo, hx⟩ := its1 hi
      have sH : Same H H' := s1.trans sm
      refine ⟨rfl, ?_⟩
      cases o with
      | none =>
        obtain ⟨y, rfl⟩ := hx
        refine ⟨_, rfl, _, _, _, _, false, rfl, .ty "tuple", .base (.str y), kit_ty (by decide +kernel), _, rfl, iteF ⟨sm, ?_⟩⟩
        rw [nows_none m eo]
        exact hD
      | some e =>
        have hx' : EAt K H x e := hx
        obtain ⟨u, xs, rfl, hu'⟩ := hx'.tup
        have oke := args_ok hok eo
        refine ⟨_, rfl, _, _, _, _, true, rfl, .ty "tuple", (hu'.mv (Tups.of sH)).ty, kit_ty (by decide +kernel), _, rfl, iteT ?_⟩
        have hm' := hm.same sH
        refine ⟨_, rfl, _, rfl, F.m, _, rfl, hm'.get (mv_n F), _, rfl, F.m, _, rfl, hm'.get (mv_c F), .ref u, e, F.n, F.c, m.names, m.cells, rfl, ⟨oke.2, oke.1, hx'.mv (Tups.of sH), hm'.nm, hm'.cl, hc⟩, fun H4 s4 => ?_⟩
        have il : i < rest.length := (List.getElem?_eq_some_iff.mp hi).1
        refine ⟨_, s4 _ _ hD, ?_, ?_, ?_⟩
        · rw [List.length_map]
          refine Nat.lt_of_le_of_lt (nows_len m _) (Nat.lt_of_le_of_lt (List.length_take_le _ _) ?_)
          have := args_len st
          exact Nat.lt_of_lt_of_le (show i < 3 by omega) (by decide)
        · intro b o e
          rw [upd_ne (ne_of_none e D0)]
          exact s4 _ _ (sm b o e)
        · rw [upd_same, nows_some m eo, List.map_append]
          rfl
    · rintro H2 ⟨sm, hD⟩
      have sH : Same H H2 := s1.trans sm
      have hm2 := hm.same sH
      have t2 : SqT K H2 t (.str st.word :: rest) := (ht.mv (Tups.of sH)).sq
      rw [hz, List.take_length] at hD
      have at1 : ∀ x, st.nameOf = some x → atI (.str st.word :: rest) 1 = some (.str x) := fun x e => atI_nat (j := 1) (nameAt x e)
      have kH : ∀ {H'}, Kp F.all H2 H' → Kp F.all H H' := fun k => (Kp.of sH).trans k
      cases st with
      | set x e =>
        have hD' : H2 D = some (.lst [.int (m.w e)]) := hD
        have hx : x ∈ keys := hok.1
        refine ⟨_, rfl, rfl, _, rfl, ifT (dec_str_eq rfl) ?_⟩
        refine ⟨_, rfl, D, _, 0, _, rfl, rfl, SqL.of hD', rfl, _, rfl, F.m, _, rfl, hm2.get (mv_n F), _, rfl, t, _, 1, _, rfl, rfl, t2, at1 x rfl, F.n, _, rfl, hm2.putN hx, ?_⟩
        exact q _ (kH hm2.kpN) (hm2.setN (put m.names x (m.w e)))
      | cell pe e =>
        have hD' : H2 D = some (.lst [.int (m.w pe), .int (m.w e)]) := hD
        refine ⟨_, rfl, rfl, _, rfl, ifF (dec_str_ne (a := "cell") (by decide +kernel)) ?_⟩
        refine ⟨_, rfl, rfl, _, rfl, ifT (dec_str_eq rfl) ?_⟩
        refine ⟨_, rfl, D, _, 1, _, rfl, rfl, SqL.of hD', rfl, _, rfl, F.m, _, rfl, hm2.get (mv_c F), _, rfl, D, _, 0, _, rfl, rfl, SqL.of hD', rfl, _, _, rfl, rfl, (by show (0 : Int) < 64; decide), F.c, _, _, _, rfl, rfl, hm2.cl, mod64_ix hc _, ?_⟩
        rw [set_ints]
        exact q _ (kH hm2.kpC) (hm2.setC _)
      | out e =>
        have hD' : H2 D = some (.lst [.int (m.w e)]) := hD
        refine ⟨_, rfl, rfl, _, rfl, ifF (dec_str_ne (a := "out") (by decide +kernel)) ?_⟩
        refine ⟨_, rfl, rfl, _, rfl, ifF (dec_str_ne (a := "out") (by decide +kernel)) ?_⟩
        refine ⟨_, rfl, rfl, _, rfl, ifT (dec_str_eq rfl) ?_⟩
        refine ⟨_, rfl, F.m, _, rfl, hm2.get (mv_o F), .inl ⟨rfl, _, SqL.of hm2.out⟩, _, rfl, D, _, 0, _, rfl, rfl, SqL.of hD', rfl, F.o, _, _, rfl, rfl, hm2.out, by rw [List.length_map]; exact Nat.lt_of_le_of_lt hol (by decide), ?_⟩
        have h1 := hm2.setO (m.outs ++ [m.w e])
        rw [List.map_append] at h1
        exact q _ (kH hm2.kpO) h1
      | keep e =>
        have hD' : H2 D = some (.lst [.int (m.w e)]) := hD
        refine ⟨_, rfl, rfl, _, rfl, ifF (dec_str_ne (a := "keep") (by decide +kernel)) ?_⟩
        refine ⟨_, rfl, rfl, _, rfl, ifF (dec_str_ne (a := "keep") (by decide +kernel)) ?_⟩
        refine ⟨_, rfl, rfl, _, rfl, ifF (dec_str_ne (a := "keep") (by decide +kernel)) ?_⟩
        refine ⟨_, rfl, rfl, _, rfl, ifT (dec_str_eq rfl) ?_⟩
        have er : m.stated (.keep e) = (if m.kept.length = 16 then (m, some deepS) else (m.keep (m.w e), none)) := rfl
        rw [er] at q
        refine ⟨_, rfl, F.m, _, rfl, hm2.get (mv_k F), F.k, _, rfl, .inl (SqL.of hm2.kp), rfl, _, rfl, ?_⟩
        by_cases hl : m.kept.length = 16
        · rw [if_pos hl] at q
          refine ifT (dec_int_eq (by rw [List.length_map, hl]; rfl)) ?_
          exact q _ (Kp.of sH) hm2
        · rw [if_neg hl] at q
          refine ifF (dec_int_ne (by rw [List.length_map]; omega)) ?_
          refine ⟨_, rfl, F.m, _, rfl, hm2.get (mv_k F), .inl ⟨rfl, _, SqL.of hm2.kp⟩, _, rfl, D, _, 0, _, rfl, rfl, SqL.of hD', rfl, F.k, _, _, rfl, rfl, hm2.kp, by rw [List.length_map]; exact Nat.lt_of_le_of_lt hkl (by decide), ?_⟩
          have h1 := hm2.setK (m.kept ++ [m.w e])
          rw [List.map_append] at h1
          exact q _ (kH hm2.kpK) h1
      | inn x =>
        have hx : x ∈ keys := hok
        refine ⟨_, rfl, rfl, _, rfl, ifF (dec_str_ne (a := "in") (by decide +kernel)) ?_⟩
        refine ⟨_, rfl, rfl, _, rfl, ifF (dec_str_ne (a := "in") (by decide +kernel)) ?_⟩
        refine ⟨_, rfl, rfl, _, rfl, ifF (dec_str_ne (a := "in") (by decide +kernel)) ?_⟩
        refine ⟨_, rfl, rfl, _, rfl, ifF (dec_str_ne (a := "in") (by decide +kernel)) ?_⟩
        refine ⟨_, rfl, rfl, _, rfl, ifT (dec_str_eq rfl) ?_⟩
        refine ⟨_, rfl, F.m, _, rfl, hm2.get (mv_i F), Nat.zero_le _, fun g hg => ?_⟩
        have s3 := new_same (o := .lst []) hg
        have h0 := hm2.same s3
        have t3 : SqT K (upd H2 g (.lst [])) t (.str (Stm.word (.inn x)) :: rest) := (ht.mv (Tups.of (sH.trans s3))).sq
        refine ⟨_, _, .lst (SqL.of h0.inp) (dp_ints m.inputs), .lst (SqL.of (xs := []) upd_same) .nil, eqv_shaped _, eqv_shaped [], _, rfl, ?_⟩
        by_cases hi : m.inputs = []
        · refine ifF (by rw [eqv_nil, decide_eq_true hi]; rfl) ?_
          refine ⟨_, rfl, F.m, _, rfl, h0.get (mv_n F), _, rfl, t, _, 1, _, rfl, rfl, t3, at1 x rfl, F.n, _, rfl, h0.putN hx, ?_⟩
          have e2 : m.inn x = { m with names := put m.names x 0, inputs := [] } := by
            unfold M.inn
            rw [hi]
            rfl
          have e3 : m.stated (.inn x) = (m.inn x, none) := rfl
          rw [e3, e2] at q
          have h3 := h0.setN (put m.names x 0)
          exact q _ (kH ((Kp.of s3).trans h0.kpN)) ⟨h3.md, h3.nm, h3.cl, h3.kp, h3.pl, by rw [← hi]; exact h3.inp, h3.out, h3.nd⟩
        · refine ifT (by rw [eqv_nil, decide_eq_false hi]; rfl) ?_
          obtain ⟨i0, ir, ei⟩ : ∃ i0 ir, m.inputs = i0 :: ir := by
            cases z : m.inputs with
            | nil => exact absurd z hi
            | cons i0 ir => exact ⟨i0, ir, rfl⟩
          have hi0 := h0.inp
          rw [ei] at hi0
          refine ⟨_, rfl, F.m, _, rfl, h0.get (mv_i F), .inl ⟨rfl, _, SqL.of hi0⟩, F.i, _, 0, 0, _, rfl, rfl, hi0, by decide, by decide, ?_, rfl, ?_⟩
          · show seqIndex? 0 (ir.map V.int).length.succ = some 0
            unfold seqIndex?
            simp
          have h1 := h0.setI ir
          have t4 := (ht.mv ((Tups.of (sH.trans s3)).trans' (h0.kpI (o := .lst (ir.map V.int))).tups)).sq
          refine ⟨_, rfl, F.m, _, rfl, h1.get (mv_n F), _, rfl, t, _, 1, _, rfl, rfl, t4, at1 x rfl, F.n, _, rfl, h1.putN hx, ?_⟩
          have e2 : m.inn x = { m with names := put m.names x i0, inputs := ir } := by
            unfold M.inn
            rw [ei]
            rfl
          have e3 : m.stated (.inn x) = (m.inn x, none) := rfl
          rw [e3, e2] at q
          exact q _ (kH ((Kp.of s3).trans (h0.kpI.trans h1.kpN))) (h1.setN (put m.names x i0))
      | take x =>
        have hx : x ∈ keys := hok
        refine ⟨_, rfl, rfl, _, rfl, ifF (dec_str_ne (a := "take") (by decide +kernel)) ?_⟩
        refine ⟨_, rfl, rfl, _, rfl, ifF (dec_str_ne (a := "take") (by decide +kernel)) ?_⟩
        refine ⟨_, rfl, rfl, _, rfl, ifF (dec_str_ne (a := "take") (by decide +kernel)) ?_⟩
        refine ⟨_, rfl, rfl, _, rfl, ifF (dec_str_ne (a := "take") (by decide +kernel)) ?_⟩
        refine ⟨_, rfl, rfl, _, rfl, ifF (dec_str_ne (a := "take") (by decide +kernel)) ?_⟩
        have er : m.stated (.take x) = (if m.kept = [] then (m, some bareS) else (m.take x, none)) := rfl
        rw [er] at q
        refine ⟨_, rfl, F.m, _, rfl, hm2.get (mv_k F), Nat.zero_le _, fun g hg => ?_⟩
        have s3 := new_same (o := .lst []) hg
        have h0 := hm2.same s3
        refine ⟨_, _, .lst (SqL.of h0.kp) (dp_ints m.kept), .lst (SqL.of (xs := []) upd_same) .nil, eqv_shaped _, eqv_shaped [], _, rfl, ?_⟩
        by_cases hl : m.kept = []
        · rw [if_pos hl] at q
          refine ifT (by rw [eqv_nil, decide_eq_true hl]) ?_
          exact q _ (kH (Kp.of s3)) h0
        · rw [if_neg hl] at q
          refine ifF (by rw [eqv_nil, decide_eq_false hl]) ?_
          have hg2 : (m.kept.map V.int)[(m.kept.map V.int).length - 1]? = some (.int (m.kept.getLastD 0)) := by
            rw [List.length_map, List.getElem?_map, ← List.getLast?_eq_getElem?, List.getLast?_eq_some_getLast hl, List.getLastD_eq_getLast?, List.getLast?_eq_some_getLast hl]
            rfl
          refine ⟨_, rfl, F.m, _, rfl, h0.get (mv_k F), .inl ⟨rfl, _, SqL.of h0.kp⟩, F.k, _, _, rfl, rfl, h0.kp, hg2, ?_⟩
          have h1 := h0.setK m.kept.dropLast
          rw [List.map_dropLast] at h1
          have t4 := (ht.mv ((Tups.of (sH.trans s3)).trans' (h0.kpK (o := .lst (m.kept.map V.int).dropLast)).tups)).sq
          refine ⟨_, rfl, F.m, _, rfl, h1.get (mv_n F), _, rfl, t, _, 1, _, rfl, rfl, t4, at1 x rfl, F.n, _, rfl, h1.putN hx, ?_⟩
          exact q _ (kH ((Kp.of s3).trans (h0.kpK.trans h1.kpN))) (h1.setN (put m.names x (m.kept.getLastD 0)))
end
end Rwl

/-! W20: a row is right. -/
namespace Rwl
open PySem PySem.Spec PyProof.Rows L2

theorem run_end (m : M) (z : Str) : ∀ ss, runS (m, some z) ss = (m, some z)
  | [] => rfl
  | _ :: r => run_end m z r
theorem run_app : ∀ (a b : List Stm) (p : M × Option Str), runS p (a ++ b) = runS (runS p a) b
  | [], _, _ => rfl
  | s :: r, b, (m, none) => run_app r b (m.stated s)
  | s :: r, b, (m, some z) => by
    show runS (m, some z) (r ++ b) = _
    rw [run_end, run_end, run_end]
theorem run_one (m : M) (s : Stm) : runS (m, none) [s] = m.stated s := rfl
/-- what the running keeps -/
structure Held (m : M) (i : Nat) : Prop where
  cells : m.cells.length = 64
  kept : m.kept.length ≤ 16
  outs : m.outs.length ≤ i
theorem Held.up {m : M} {i : Nat} (h : Held m i) : Held m (i + 1) := ⟨h.cells, h.kept, Nat.le_succ_of_le h.outs⟩
theorem Held.stated {m : M} {i : Nat} (h : Held m i) (s : Stm) : Held (m.stated s).1 (i + 1) := by
  cases s with
  | set x e => exact ⟨h.cells, h.kept, Nat.le_succ_of_le h.outs⟩
  | cell p e => exact ⟨by show (m.cells.set _ _).length = 64; rw [List.length_set]; exact h.cells, h.kept, Nat.le_succ_of_le h.outs⟩
  | out e => exact ⟨h.cells, h.kept, by show (m.outs ++ [_]).length ≤ i + 1; rw [List.length_append]; exact Nat.succ_le_succ h.outs⟩
  | keep e =>
    show Held (if m.kept.length = 16 then (m, some deepS) else (m.keep (m.w e), none)).1 (i + 1)
    by_cases hl : m.kept.length = 16
    · rw [if_pos hl]
      exact h.up
    · rw [if_neg hl]
      refine ⟨h.cells, ?_, Nat.le_succ_of_le h.outs⟩
      show (m.kept ++ [_]).length ≤ 16
      rw [List.length_append]
      have := h.kept
      show m.kept.length + 1 ≤ 16
      omega
  | inn x => exact ⟨h.cells, h.kept, Nat.le_succ_of_le h.outs⟩
  | take x =>
    show Held (if m.kept = [] then (m, some bareS) else (m.take x, none)).1 (i + 1)
    by_cases hl : m.kept = []
    · rw [if_pos hl]
      exact h.up
    · rw [if_neg hl]
      refine ⟨h.cells, ?_, Nat.le_succ_of_le h.outs⟩
      show (m.kept.dropLast).length ≤ 16
      rw [List.length_dropLast]
      have := h.kept
      omega
theorem bx_keys {r : Nat} (h : r < 4) : bx r ∈ keys := by
  have hc : r = 0 ∨ r = 1 ∨ r = 2 ∨ r = 3 := by omega
  rcases hc with rfl | rfl | rfl | rfl <;> simp [keys]
theorem num_ok (n : Int) : exOk (.num n) := ⟨trivial, Nat.zero_le _⟩
theorem bx_ok {r : Nat} (h : r < 4) : exOk (.name (bx r)) := ⟨bx_keys h, Nat.zero_le _⟩
theorem zeroE_ok {r : Nat} (h : r < 4) : (zeroE r).ok := ⟨zero_key, ⟨bx_keys h, trivial⟩, by show max 0 0 + 1 ≤ 3; decide⟩
theorem less_set {e : Ex} (h : exOk e) : (Stm.set "less" e).ok := ⟨less_key, h⟩
theorem zero_set {e : Ex} (h : exOk e) : (Stm.set "zero" e).ok := ⟨zero_key, h⟩
theorem bin_ok {o : Op} {r s : Nat} (hr : r < 4) (hs : s < 4) : exOk (.bin o (.name (bx r)) (.name (bx s))) := ⟨⟨bx_keys hr, bx_keys hs⟩, by show max 0 0 + 1 ≤ 3; decide⟩
theorem binN_ok {o : Op} {r : Nat} (hr : r < 4) (n : Int) : exOk (.bin o (.name (bx r)) (.num n)) := ⟨⟨bx_keys hr, trivial⟩, by show max 0 0 + 1 ≤ 3; decide⟩
theorem bin2_ok {r s : Nat} (hr : r < 4) (hs : s < 4) : exOk (.bin .lt (.bin .sub (.num 255) (.name (bx r))) (.name (bx s))) := ⟨⟨⟨trivial, bx_keys hr⟩, bx_keys hs⟩, by show max (max 0 0 + 1) 0 + 1 ≤ 3; decide⟩
theorem cellN_ok (n : Int) : exOk (.cell (.num n)) := ⟨trivial, by show 0 + 1 ≤ 3; decide⟩
theorem cellB_ok {s : Nat} (h : s < 4) : exOk (.cell (.name (bx s))) := ⟨bx_keys h, by show 0 + 1 ≤ 3; decide⟩
def AllOk (ss : List Stm) : Prop := ∀ s ∈ ss, s.ok
theorem all_nil : AllOk [] := fun _ h => by cases h
theorem all_cons {s : Stm} {r : List Stm} (h : s.ok) (k : AllOk r) : AllOk (s :: r) := fun x hx => by
  rcases List.mem_cons.mp hx with e | e
  · rw [e]
    exact h
  · exact k x e
theorem stms_ok (r : Row) (h : r.ok) : AllOk (stms r) := by
  cases r with
  | alone k => exact all_nil
  | jump k n => exact all_nil
  | single k r =>
    obtain ⟨hk, hr⟩ := h
    match k, hk with
    | 0, _ => exact all_cons (bx_keys hr) all_nil
    | 1, _ => exact all_cons (bx_ok hr) all_nil
    | 2, _ => exact all_cons (bx_ok hr) all_nil
    | 3, _ => exact all_cons (bx_keys hr) all_nil
    | k + 4, z => exact absurd z (by omega)
  | numd k r n =>
    obtain ⟨hk, hr, _⟩ := h
    match k, hk with
    | 0, _ => exact all_cons ⟨bx_keys hr, num_ok n⟩ all_nil
    | 1, _ => exact all_cons (zero_set (binN_ok hr n)) (all_cons (less_set (binN_ok hr n)) all_nil)
    | 2, _ => exact all_cons ⟨bx_keys hr, cellN_ok _⟩ all_nil
    | 3, _ => exact all_cons ⟨num_ok _, bx_ok hr⟩ all_nil
    | k + 4, z => exact absurd z (by omega)
  | pair k r s =>
    obtain ⟨hk, hr, hs⟩ := h
    match k, hk with
    | 0, _ => exact all_cons ⟨bx_keys hr, bx_ok hs⟩ all_nil
    | 1, _ => exact all_cons (less_set (bin2_ok hr hs)) (all_cons ⟨bx_keys hr, bin_ok hr hs⟩ (all_cons (zeroE_ok hr) all_nil))
    | 2, _ => exact all_cons (less_set (bin_ok hr hs)) (all_cons ⟨bx_keys hr, bin_ok hr hs⟩ (all_cons (zeroE_ok hr) all_nil))
    | 3, _ => exact all_cons ⟨bx_keys hr, bin_ok hr hs⟩ (all_cons (zeroE_ok hr) (all_cons (less_set (num_ok 0)) all_nil))
    | 4, _ => exact all_cons ⟨bx_keys hr, bin_ok hr hs⟩ (all_cons (zeroE_ok hr) (all_cons (less_set (num_ok 0)) all_nil))
    | 5, _ => exact all_cons ⟨bx_keys hr, bin_ok hr hs⟩ (all_cons (zeroE_ok hr) (all_cons (less_set (num_ok 0)) all_nil))
    | 6, _ => exact all_cons (zero_set (bin_ok hr hs)) (all_cons (less_set (bin_ok hr hs)) all_nil)
    | 7, _ => exact all_cons ⟨bx_keys hr, cellB_ok hs⟩ all_nil
    | 8, _ => exact all_cons ⟨bx_ok hr, bx_ok hs⟩ all_nil
    | k + 9, z => exact absurd z (by omega)
theorem stms_len (r : Row) : (stms r).length ≤ 3 := by
  unfold stms
  split <;> exact Nat.le_of_ble_eq_true rfl
theorem StsAt.get {K : PySem.W.Frag} {H : Hp} : ∀ {vs : List V} {ss : List Stm}, StsAt K H vs ss → ∀ {i : Nat} {v : V}, vs[i]? = some v → ∃ s, ss[i]? = some s ∧ StAt K H v s
  | [], [], _, i, v, e => by simp at e
  | _ :: _, s :: _, ⟨h, _⟩, 0, v, e => by
    cases e
    exact ⟨s, rfl, h⟩
  | _ :: _, _ :: _, ⟨_, r⟩, i + 1, v, e => StsAt.get r (i := i) e
  | [], _ :: _, h, _, _, _ => (show False from h).elim
  | _ :: _, [], h, _, _, _ => (show False from h).elim
theorem StsAt.len {K : PySem.W.Frag} {H : Hp} : ∀ {vs : List V} {ss : List Stm}, StsAt K H vs ss → vs.length = ss.length
  | [], [], _ => rfl
  | _ :: _, _ :: _, ⟨_, r⟩ => congrArg (· + 1) r.len
  | [], _ :: _, h => (show False from h).elim
  | _ :: _, [], h => (show False from h).elim
/-- two machines that say the same -/
theorem pair_ints {K : PySem.W.Frag} {H : Hp} (n : Nat) : ∀ is : List Int, Paired (EqV K H (n + 1)) (is.map V.int) (is.map V.int)
  | [] => .nil
  | _ :: r => .cons (.inl ⟨rfl, rfl⟩) (pair_ints n r)
theorem eq_lists {K : PySem.W.Frag} {H : Hp} {a b : Addr} {is : List Int} (ha : H a = some (.lst (is.map V.int))) (hb : H b = some (.lst (is.map V.int))) : EqV K H 2 (.ref a) (.ref b) :=
  .inr (.inr (.inl ⟨a, b, _, _, rfl, rfl, SqL.of ha, SqL.of hb, pair_ints 0 is⟩))
theorem eq_names {K : PySem.W.Frag} {H : Hp} {a b : Addr} {f : Nm} (ha : H a = some (.dK (nkv f))) (hb : H b = some (.dK (nkv f))) : EqV K H 2 (.ref a) (.ref b) := by
  refine .inr (.inr (.inr ⟨a, b, _, _, rfl, rfl, ha, hb, rfl, fun p hp => ?_⟩))
  obtain ⟨x, hx, rfl⟩ := List.mem_map.mp hp
  exact ⟨_, val_nkv hx, .inl ⟨rfl, rfl⟩⟩
theorem eq_machines {K : PySem.W.Frag} {H : Hp} {F G : Ft} {m : M} (hF : MAt H F m) (hG : MAt H G m) : ∀ p ∈ mkv G, ∃ u, valV (mkv F) p.1 = some u ∧ EqV K H 2 p.2 u := by
  intro p hp
  have hc : p = ((Sum.inr "names" : Key), V.ref G.n) ∨ p = ((Sum.inr "cells" : Key), V.ref G.c) ∨ p = ((Sum.inr "kept" : Key), V.ref G.k) ∨ p = ((Sum.inr "places" : Key), V.ref G.p) ∨ p = ((Sum.inr "inputs" : Key), V.ref G.i) ∨ p = ((Sum.inr "outs" : Key), V.ref G.o) := by
    simpa [mkv] using hp
  rcases hc with rfl | rfl | rfl | rfl | rfl | rfl
  · exact ⟨_, mv_n F, eq_names hG.nm hF.nm⟩
  · exact ⟨_, mv_c F, eq_lists hG.cl hF.cl⟩
  · exact ⟨_, mv_k F, eq_lists hG.kp hF.kp⟩
  · exact ⟨_, mv_p F, eq_lists (is := []) hG.pl hF.pl⟩
  · exact ⟨_, mv_i F, eq_lists hG.inp hF.inp⟩
  · exact ⟨_, mv_o F, eq_lists hG.out hF.out⟩
theorem ask_ok (k : Nat) : exOk (askE k) := by
  unfold askE
  split
  · exact ⟨zero_key, Nat.zero_le _⟩
  · exact ⟨zero_key, by show 0 + 1 ≤ 3; decide⟩
  · exact ⟨less_key, Nat.zero_le _⟩
  · exact ⟨less_key, by show 0 + 1 ≤ 3; decide⟩
theorem way_ask {r : Row} {b : Int} {e : Ex} {n b' : Int} (h : r.way b = .ask e n b') : exOk e := by
  unfold Row.way at h
  split at h
  · cases h
  · cases h
    exact ask_ok _
  · cases h
theorem off_two {H : Hp} {F G : Ft} {m : M} (hF : MAt H F m) (hG : ∀ b ∈ G.all, H b = none) : ∀ b ∈ F.all, b ∉ G.all := fun b hb z => by
  obtain ⟨o, e⟩ := hF.has hb
  rw [hG b z] at e
  cases e
theorem sh_go (n : Int) : SeqAt.shaped (.tuple [.str "go", .int n]) = true := by
  simp [SeqAt.shaped, PyData.canLay0, PyData.canLayAll0, PyData.depth, PyData.depthAll]
  decide +kernel
theorem eqv_go (n : Int) : PyData.eqv (.tuple [.str "go", .int n]) (.tuple [.str "go", .int n]) = true := by
  simp [PyData.eqv, PyData.eqvAll]
def spRight (K : PySem.W.Frag) : Sp := fun vs H Q _ => ∃ (a : Addr) (v : V) (r : Row), vs = [.ref a, v] ∧ SprOk H a ∧ RowAt K H v r ∧ r.ok ∧ r.goes ∧ ∀ H', SprOk H' a → Kp [a] H H' → Q (.bl true) H'
abbrev riN : List Str := ["_law_spring_here", "_law_row", "_law_code_here", "_law_m", "_law_other", "_law_due", "_law_statements", "_law_way", "_law_end", "_law_statement", "_law_told"]
abbrev rips : List Str := ["_law_spring_here", "_law_row"]
theorem dec_bl {b : Bool} : (b = true) = (b = true) := rfl
section
variable {P : Program} {w : World} {K : PySem.W.Frag} {mg : Str → Option Value} {base : Heap} {f : Addr} {fd : FuncData}
theorem ok_right (F0 : Fun K "_law_row_right" "_law_row_right" (top 68) f fd) (Cb : Cal P w K mg base 1 "_law_bytes" ["_law_row"] (spBytes K)) (Cs : Cal P w K mg base 3 "_law_state" ["_law_spring_here"] spState) (Cc : Cal P w K mg base 1 "_law_copied" ["_law_m"] spCopied)
    (Cd : Cal P w K mg base 3 "_law_done" gops (spDone K)) (Cl : Cal P w K mg base 4 "lifted" ["code", "address"] (spLifted K)) (Ct : Cal P w K mg base 9 "_law_stated" sdps (spStated K)) (Cw : Cal P w K mg base 8 "worth_of" wps (spWorth K 3))
    (gl : mg "len" = none) (gi : mg "isinstance" = none) (gb : mg "bool" = none) : FnOk P w K mg base CX0 10 f fd rips (spRight K) := by
  have sc : FnScope riN rips (defScope (top 68)) := sc_by (by decide +kernel)
  refine F0.ok sc (fun vs H Q E h => ?_) fun cdv A outer s H vs Q E hr h => ?_
  · obtain ⟨a, v, r, rfl, _⟩ := h
    rfl
  · obtain ⟨a, v, r, rfl, sp, hv, ok, go, q⟩ := h
    have hu := hu_of hr
    refine ⟨_, pss_cons (ps_set (i := 2) sc.nd rfl (.inl rfl) (pe_n Cb (hr.mono (by decide)) rfl (pa_cons (pv 1) pa_nil)))
      (pss_cons (ps_set (i := 3) sc.nd rfl (.inl rfl) (pe_n Cs (hr.mono (by decide)) rfl (pa_cons (pv 0) pa_nil)))
      (pss_cons (ps_set (i := 4) sc.nd rfl (.inl rfl) (pe_n Cc (hr.mono (by decide)) rfl (pa_cons (pv 3) pa_nil)))
      (pss_cons (ps_set (i := 5) sc.nd rfl (.inl rfl) (pe_n Cd (hr.mono (by decide)) rfl (pa_cons (pv 3) (pa_cons (pv 1) (pa_cons (pe_callB call_len_seq (by rfl) gl PySem.boot_len (pa_cons (pv 2) pa_nil)) pa_nil)))))
      (pss_cons (ps_asg (pe_n Cl (hr.mono (by decide)) rfl (pa_cons (pv 2) (pa_cons pe_int pa_nil))) (pg_tup rfl (pgs_cons (pg_name (i := 6) sc.nd rfl (.inl rfl)) (pgs_cons (pg_name (i := 7) sc.nd rfl (.inl rfl)) pgs_nil))))
      (pss_cons (ps_set (i := 8) sc.nd rfl (.inl rfl) pe_non)
      (pss_cons (ps_for PassesOwn.never rfl (pi_list (pv 6)) (pg_name (i := 9) sc.nd rfl (.inl rfl))
        (pss_one (ps_if (pt_cmpR op_isN (pv 8) pe_non (nomark _)) (pss_one (ps_set (i := 8) sc.nd rfl (.inl rfl) (pe_n Ct hr rfl (pa_cons (pv 4) (pa_cons (pv 9) pa_nil))))) pss_nil)))
      (pss_cons (ps_if (pt_cmpR op_notN (pv 8) pe_non (nomark _)) (pss_one (ps_ret (pe_cmpR op_eq (pv 5) (pv 8) (by rfl)))) pss_nil)
      (pss_cons (ps_if (pt_cmpR (op_neV hr.units) (pv 4) (pv 3) (by rfl)) pss_never pss_nil)
      (pss_cons (ps_if (pt_cmpR op_ne (pe_ix ix_tup (pv 7) pe_int (fun _ _ => rfl)) pe_str (nomark _)) (pss_one (ps_ret (pe_cmpR (op_eqD hr.units) (pv 7) (pe_tup (pa_cons pe_str (pa_cons (pv 5) pa_nil))) (by rfl)))) pss_nil)
      (pss_cons (ps_set (i := 10) sc.nd rfl (.inl rfl) (pe_n Cw (hr.mono (by decide)) rfl (pa_cons (pe_ix ix_tup (pv 7) pe_int (fun _ _ => rfl)) (pa_cons (pe_dget hu (pv 3) pe_str (fun _ _ => rfl)) (pa_cons (pe_dget hu (pv 3) pe_str (fun _ _ => rfl)) pa_nil)))))
      (pss_one (ps_ret (pe_and (pe_cmpR op_in_seq (pv 10) (pe_lst (pa_cons pe_int (pa_cons pe_int pa_nil))) (by rfl))
        (pe_and (pe_not (pe_callB (r := rIsi K) call_isi (by rfl) gi (by decide +kernel) (pa_cons (pv 10) (pa_cons (pe_bltn (v := .ty "bool") (by rfl) gb (by decide +kernel) rfl) pa_nil))))
          (pe_one (pe_cmpR op_eq (pe_ix ix_list (pe_lst (pa_cons (pe_ix ix_tup (pv 7) pe_int (fun _ _ => rfl)) (pa_cons (pe_ix ix_tup (pv 7) pe_int (fun _ _ => rfl)) pa_nil))) (pv 10) (fun _ _ => rfl)) (pv 5) (by rfl))))))))))))))))), ?_⟩
    -- the bytes
    refine ⟨_, rfl, v, r, rfl, hv, ok, fun H1 cd s1 cn hcd => ?_⟩
    have ca : cd ≠ a := sp.ne cn
    have v1 := hv.mv (Tups.of s1)
    -- the state
    refine ⟨_, rfl, a, rfl, sp.same s1, fun H2 F m mk mok => ?_⟩
    have hcd2 : H2 cd = some (.lst (r.bytes.map V.int)) := mk.kp.keep _ _ (fun z => ca (List.mem_singleton.mp z)) hcd
    have v2 := v1.mv mk.kp.tups
    have cdF : ¬ cd ∈ F.all := fun z => by
      rw [mk.new cd z] at hcd
      cases hcd
    -- the copy
    refine ⟨_, rfl, F, m, rfl, mk.at_, fun H3 G s3 mG nG => ?_⟩
    have mF3 := mk.at_.same s3
    have FG := off_two mk.at_ nG
    have GF : ∀ b ∈ G.all, b ∉ F.all := fun b hb z => FG b z hb
    have v3 := v2.mv (Tups.of s3)
    have hcd3 := s3 _ _ hcd2
    -- the row done
    refine ⟨_, rfl, _, rfl, _, rfl, cd, _, rfl, .inl (SqL.of hcd3), ?_⟩
    have el : ((r.bytes.map V.int).length : Int) = (r.bytes.length : Int) := by rw [List.length_map]
    rw [el]
    refine ⟨F, m, v, r, (r.bytes.length : Int), rfl, v3, ok, go, mok.cells, mok.kept, by rw [mk.out]; exact Nat.zero_le _, mF3, fun H4 k4 mF4 => ?_⟩
    have mG4 := mG.kp' k4 GF
    have hcd4 := k4.keep _ _ cdF hcd3
    have A := agree m mok r (r.bytes.length : Int) ok go
    -- the statements
    refine ⟨_, rfl, cd, r, rfl, hcd4, ok, go, fun H5 p l us y s5 hp nl hl hss hw => ?_⟩
    refine ⟨p, _, rfl, hp.sq, rfl, _, _, rfl, _, _, rfl, rfl, ?_⟩
    have mF5 := mF4.same s5
    have mG5 := mG4.same s5
    have lG : ¬ l ∈ G.all := mG4.off nl
    have aG : ¬ a ∈ G.all := fun z => mk.sp.ne (nG a z) rfl
    have fin : ∀ {H6 : Hp}, Kp G.all H5 H6 → SprOk H6 a ∧ Kp [a] H H6 := fun {H6} k6 => by
      refine ⟨(((mk.sp.same s3).kp k4 mk.nota).same s5).kp k6 aG, ⟨fun b o hb e => ?_, fun b xs e => k6.tups _ _ (Tups.of s5 _ _ (k4.tups _ _ (Tups.of s3 _ _ (mk.kp.tups _ _ (Tups.of s1 _ _ e)))))⟩⟩
      have e1 := s1 _ _ e
      have e2 := mk.kp.keep _ _ hb e1
      have bF : ¬ b ∈ F.all := fun z => by
        rw [mk.new b z] at e1
        cases e1
      have bG : ¬ b ∈ G.all := fun z => by
        rw [nG b z] at e2
        cases e2
      exact k6.keep _ _ bG (s5 _ _ (k4.keep _ _ bF (s3 _ _ e2)))
    have done : ∀ {H6 H7 : Hp}, Kp G.all H5 H6 → Same H6 H7 → Q (.bl true) H7 := fun {H6 H7} k6 s7 => by
      obtain ⟨f1, f2⟩ := fin k6
      exact q _ (f1.same s7) (f2.trans (Kp.of s7))
    have hok := stms_ok r ok
    have hz : us.length = (stms r).length := hss.len
    have hz3 := stms_len r
    refine ⟨_, rfl, l, rfl, ⟨us, SqL.of hl⟩, for_list (K := K) (a := l) (xs := us)
      (fun i σ H' => ∃ u : Option V, σ = [some (.ref a), some v, some (.ref cd), some (.ref F.m), some (.ref G.m), some (doneV (m.done (r.bytes.length : Int) r)), some (.ref l), some y, some (endV (runS (m, none) ((stms r).take i)).2), u, none] ∧
        MAt H' G (runS (m, none) ((stms r).take i)).1 ∧ Kp G.all H5 H' ∧ Held (runS (m, none) ((stms r).take i)).1 i)
      ⟨none, rfl, mG5, Kp.refl _ _, ⟨mok.cells, mok.kept, by show m.outs.length ≤ 0; rw [mk.out]; exact Nat.le_refl _⟩⟩ (fun i σ H' _ ⟨_, _, _, k', _⟩ => SqL.of (k'.keep _ _ lG hl)) ?_ ?_⟩
    · rintro i x σ H' hi ⟨u, rfl, mG', k', held⟩
      obtain ⟨st, est, hx⟩ := hss.get hi
      have il : i < us.length := (List.getElem?_eq_some_iff.mp hi).1
      have et : (stms r).take (i + 1) = (stms r).take i ++ [st] := by rw [List.take_add_one, est]; rfl
      have er : runS (m, none) ((stms r).take (i + 1)) = runS (runS (m, none) ((stms r).take i)) [st] := by rw [et, run_app]
      cases hrun : runS (m, none) ((stms r).take i) with
      | mk m' e' =>
        rw [hrun] at mG' held er
        cases e' with
        | none =>
          rw [run_one] at er
          refine ⟨_, rfl, rfl, _, rfl, iteT ?_⟩
          refine ⟨_, rfl, _, rfl, G, m', x, st, rfl, hx.mv k'.tups, hok _ (List.mem_of_getElem? est), held.cells, held.kept, Nat.le_trans held.outs (by omega), mG', fun H7 k7 m7 => ?_⟩
          rw [← er] at m7
          refine ⟨some x, ?_, m7, k'.trans k7, ?_⟩
          · rw [er]
            rfl
          · rw [er]
            exact held.stated st
        | some z =>
          rw [run_end] at er
          refine ⟨_, rfl, rfl, _, rfl, iteF ?_⟩
          refine ⟨some x, ?_, ?_, k', ?_⟩
          · rw [er]
            rfl
          · rw [er]
            exact mG'
          · rw [er]
            exact held.up
    · rintro σ H6 ⟨u, rfl, mG6, k6, held⟩
      rw [hz, List.take_length] at mG6 held ⊢
      have mF6 := mF5.kp' k6 FG
      have sm6 : Same H6 H6 := fun _ _ e => e
      cases hrun : runS (m, none) (stms r) with
      | mk m6 e6 =>
        have fin6 : (m.done (r.bytes.length : Int) r).2.1 = e6 := by rw [← A.fin, hrun]
        rw [hrun] at mG6 held
        cases e6 with
        | some z =>
          have ed : doneV (m.done (r.bytes.length : Int) r) = .str z := by
            unfold doneV
            rw [fin6]
          rw [ed]
          refine ⟨_, rfl, rfl, _, rfl, iteT ?_⟩
          refine ⟨_, rfl, _, rfl, rfl, ?_⟩
          show Q (.bl (decide (V.str z = V.str z))) H6
          rw [dec_str_eq rfl]
          exact done k6 sm6
        | none =>
          have ed : doneV (m.done (r.bytes.length : Int) r) = .int (m.done (r.bytes.length : Int) r).2.2 := by
            unfold doneV
            rw [fin6]
          have em : m6 = (m.done (r.bytes.length : Int) r).1 := by rw [← A.same fin6, hrun]
          have wr := A.way fin6
          rw [ed]
          rw [← em] at mF6 wr
          refine ⟨_, rfl, rfl, _, rfl, iteF ?_⟩
          refine ⟨_, rfl, _, rfl, 2, G.m, F.m, _, _, by decide, rfl, rfl, mG6.md, mF6.md, rfl, eq_machines mF6 mG6, _, rfl, iteF ?_⟩
          have hw6 := hw.mv k6.tups
          cases ew : r.way (r.bytes.length : Int) with
          | go n =>
            rw [ew] at hw6 wr
            obtain ⟨t, rfl, ht⟩ := hw6
            have en : n = (m.done (r.bytes.length : Int) r).2.2 := wr
            refine ⟨_, rfl, t, _, 0, _, rfl, rfl, ht.sq, at_zero _ _, rfl, _, rfl, ifT (by rw [dec_str_ne (a := "go") (b := "if") (by decide +kernel)]; rfl) ?_⟩
            refine ⟨_, rfl, _, rfl, two_line, fun p2 np => ?_⟩
            have s7 := new_same (o := .tup [.str "go", .int (m.done (r.bytes.length : Int) r).2.2]) np
            refine ⟨.tuple [.str "go", .int n], .tuple [.str "go", .int (m.done (r.bytes.length : Int) r).2.2], .tup (ht.mv (Tups.of s7)).sq (.cons (.str _) (.cons (.int _) .nil)), .tup (SqT.of upd_same) (.cons (.str _) (.cons (.int _) .nil)), sh_go _, sh_go _, ?_⟩
            rw [en, eqv_go]
            exact done k6 s7
          | ask e n b' =>
            rw [ew] at hw6 wr
            obtain ⟨t, w0, rfl, ht, he⟩ := hw6
            have oke := way_ask ew
            refine ⟨_, rfl, t, _, 0, _, rfl, rfl, ht.sq, at_zero _ _, rfl, _, rfl, ifF (by rw [dec_str_eq (a := "if") (b := "if") rfl]; rfl) ?_⟩
            refine ⟨_, rfl, t, _, 1, _, rfl, rfl, ht.sq, atI_nat (j := 1) rfl, _, rfl, F.m, _, rfl, mF6.get (mv_n F), _, rfl, F.m, _, rfl, mF6.get (mv_c F), w0, e, F.n, F.c, m6.names, m6.cells, rfl, ⟨oke.2, oke.1, he, mF6.nm, mF6.cl, held.cells⟩, fun H7 s7 => ?_⟩
            rcases wr with ⟨wz, bz⟩ | ⟨wz, bz⟩
            · rw [show worth m6.names m6.cells e = 0 from wz]
              refine ⟨_, rfl, two_line, fun q2 nq => ⟨q2, _, rfl, .inl (SqL.of upd_same), rfl, rfl, true, rfl, ifT rfl ?_⟩⟩
              have s8 := s7.trans (new_same (o := .lst [.int 0, .int 1]) nq)
              refine ⟨_, rfl, _, _, _, _, false, rfl, .ty "bool", .base (.int _), kit_ty (by decide +kernel), _, rfl, true, rfl, ifT rfl ?_⟩
              have t8 := (ht.mv (Tups.of s8)).sq
              refine ⟨_, rfl, t, _, 3, _, rfl, rfl, t8, atI_nat (j := 3) rfl, _, rfl, t, _, 2, _, rfl, rfl, t8, atI_nat (j := 2) rfl, two_line, fun l2 nl2 => ?_⟩
              refine ⟨_, rfl, l2, _, 0, _, rfl, rfl, SqL.of upd_same, atI_nat (j := 0) rfl, _, rfl, rfl, ?_⟩
              rw [dec_int_eq bz]
              exact done k6 (s8.trans (new_same nl2))
            · rw [show worth m6.names m6.cells e = 1 from wz]
              refine ⟨_, rfl, two_line, fun q2 nq => ⟨q2, _, rfl, .inl (SqL.of upd_same), rfl, rfl, true, rfl, ifT rfl ?_⟩⟩
              have s8 := s7.trans (new_same (o := .lst [.int 0, .int 1]) nq)
              refine ⟨_, rfl, _, _, _, _, false, rfl, .ty "bool", .base (.int _), kit_ty (by decide +kernel), _, rfl, true, rfl, ifT rfl ?_⟩
              have t8 := (ht.mv (Tups.of s8)).sq
              refine ⟨_, rfl, t, _, 3, _, rfl, rfl, t8, atI_nat (j := 3) rfl, _, rfl, t, _, 2, _, rfl, rfl, t8, atI_nat (j := 2) rfl, two_line, fun l2 nl2 => ?_⟩
              refine ⟨_, rfl, l2, _, 1, _, rfl, rfl, SqL.of upd_same, atI_nat (j := 1) rfl, _, rfl, rfl, ?_⟩
              rw [dec_int_eq bz]
              exact done k6 (s8.trans (new_same nl2))
end
end Rwl

/-! W21: the law. -/
namespace Rwl
open PySem PySem.Spec PyProof.Rows L2

theorem sql_mv {K : PySem.W.Frag} {H H' : Hp} {a : Addr} {xs : List V} (h : SqL K H a xs) (s : Same H H') : SqL K H' a xs := by
  rcases h with (h | ⟨o, h⟩) | h
  · exact .inl (.inl (s _ _ h))
  · exact .inl (.inr ⟨o, s _ _ h⟩)
  · exact .inr h
def overW : List Str := ["halt", "back", "call"]
theorem jump_in : ∀ k : Nat, k < 6 → jumpW.getD k "" ∈ jumpW := by decide +kernel
theorem off_jump : ∀ x, x ∈ offW → ¬ x ∈ jumpW ∧ ¬ x ∈ overW := by decide +kernel
theorem alone_jump : ∀ k : Nat, k < 3 → ¬ aloneW.getD k "" ∈ jumpW := by decide +kernel
theorem alone_over : ∀ k : Nat, k < 3 → ¬ aloneW.getD k "" ∈ overW → k = 2 := by decide +kernel
theorem jump_over : ∀ k : Nat, k < 6 → ¬ jumpW.getD k "" ∈ overW → k < 5 := by decide +kernel
def spLaw (K : PySem.W.Frag) : Sp := fun vs H Q _ => ∃ (a : Addr) (ns : List Int), vs = [.ref a] ∧ SqL K H a (ns.map V.int) ∧ ns.length ≤ 63 ∧ ∀ H', Q (.bl true) H'
abbrev laN : List Str := ["_law_script", "_law_spring_here", "_law_turn", "_law_row"]
/-- a row with a word that is not over goes -/
theorem goes_of {r : Row} (ok : r.ok) (h : ¬ r.word ∈ overW) : r.goes := by
  cases r with
  | alone k => exact alone_over k ok h
  | jump k n => exact jump_over k ok.1 h
  | single k r => exact trivial
  | numd k r n => exact trivial
  | pair k r s => exact trivial
theorem jump_of {r : Row} (ok : r.ok) (h : r.word ∈ jumpW) : ∃ k n, r = .jump k n := by
  cases r with
  | alone k => exact absurd h (alone_jump k ok)
  | jump k n => exact ⟨k, n, rfl⟩
  | single k r => exact absurd h (off_jump _ (off_single k ok.1)).1
  | numd k r n => exact absurd h (off_jump _ (off_numd k ok.1)).1
  | pair k r s => exact absurd h (off_jump _ (off_pair k ok.1)).1
section
variable {P : Program} {w : World} {K : PySem.W.Frag} {mg : Str → Option Value} {base : Heap} {f : Addr} {fd : FuncData}
theorem ok_law (F0 : Fun K "law" "law" (top 69) f fd) (Cs : Cal P w K mg base 1 "_law_spring" ["_law_script"] (spSpring K)) (Cr : Cal P w K mg base 2 "_law_drawn_row" ["_law_spring_here"] (spDrawn K)) (Cd : Cal P w K mg base 1 "_law_draw" dps spDraw)
    (Ct : Cal P w K mg base 10 "_law_row_right" rips (spRight K)) (gl : mg "len" = none) (gm : mg "min" = none) (gr : mg "range" = none) : FnOk P w K mg base CX0 11 f fd ["_law_script"] (spLaw K) := by
  have sc : FnScope laN ["_law_script"] (defScope (top 69)) := sc_by (by decide +kernel)
  refine F0.ok sc (fun vs H Q E h => ?_) fun cdv A outer s H vs Q E hr h => ?_
  · obtain ⟨a, ns, rfl, _⟩ := h
    rfl
  · obtain ⟨a0, ns, rfl, hS, hlen, q⟩ := h
    refine ⟨_, pss_cons (ps_set (i := 1) sc.nd rfl (.inl rfl) (pe_n Cs (hr.mono (by decide)) rfl (pa_cons (pv 0) pa_nil)))
      (pss_cons (ps_for PassesOwn.never rfl (pi_range1 (by rfl) gr (pa_cons (pe_op op_mul pe_int (pe_op op_add pe_int (pe_callB (call_min2 rfl) (by rfl) gm (by decide +kernel) (pa_cons (pe_callB call_len_seq (by rfl) gl PySem.boot_len (pa_cons (pv 0) pa_nil)) (pa_cons pe_int pa_nil))))) pa_nil))
          (pg_name (i := 2) sc.nd rfl (.inl rfl))
        (pss_cons (ps_set (i := 3) sc.nd rfl (.inl rfl) (pe_n Cr (hr.mono (by decide)) rfl (pa_cons (pv 1) pa_nil)))
        (pss_cons (ps_if (pt_cmpR op_in_seq (pe_ix ix_tup (pv 3) pe_int (fun _ _ => rfl)) (pe_lst (pa_cons pe_str (pa_cons pe_str (pa_cons pe_str (pa_cons pe_str (pa_cons pe_str (pa_cons pe_str pa_nil))))))) (by rfl))
          (pss_one (ps_set (i := 3) sc.nd rfl (.inl rfl) (pe_tup (pa_cons (pe_ix ix_tup (pv 3) pe_int (fun _ _ => rfl)) (pa_cons (pe_n Cd (hr.mono (by decide)) rfl (pa_cons (pv 1) (pa_cons pe_int pa_nil))) pa_nil))))) pss_nil)
        (pss_one (ps_if (PW.pt (pw_and (pt_cmpR op_notIn_seq (pe_ix ix_tup (pv 3) pe_int (fun _ _ => rfl)) (pe_lst (pa_cons pe_str (pa_cons pe_str (pa_cons pe_str pa_nil)))) (by rfl)) (pw_and1 (pt_not (pt_val (pe_n Ct hr rfl (pa_cons (pv 1) (pa_cons (pv 3) pa_nil))))))))
          pss_never pss_nil)))))
      (pss_one (ps_ret pe_bl))), ?_⟩
    refine ⟨_, rfl, a0, ns, rfl, hS, hlen, fun H1 p s1 np sp1 => ?_⟩
    obtain ⟨mn, emn, mlo, mhi⟩ : ∃ mn : Int, (if (6 : Int) < (ns.map V.int).length then (6 : Int) else ((ns.map V.int).length : Int)) = mn ∧ 0 ≤ mn ∧ mn ≤ 6 := by
      refine ⟨_, rfl, ?_⟩
      by_cases h6 : (6 : Int) < (ns.map V.int).length
      · rw [if_pos h6]
        omega
      · rw [if_neg h6]
        omega
    refine ⟨_, rfl, a0, _, rfl, .inl (sql_mv hS s1), _, _, rfl, ?_⟩
    rw [emn]
    refine ⟨_, _, rfl, rfl, _, _, rfl, rfl, .inl ⟨by decide, by decide⟩, ?_⟩
    refine ⟨12 * (1 + mn), rfl, by omega, by omega, for_range (lo := 0) (n := (12 * (1 + mn)).toNat) (fun i σ H' => ∃ (u2 u3 : Option V), σ = [some (.ref a0), some (.ref p), u2, u3] ∧ SprOk H' p)
      ⟨_, _, rfl, sp1⟩ ?_ ?_⟩
    · rintro i σ H' hi ⟨u2, u3, rfl, sp'⟩
      refine ⟨_, rfl, p, rfl, sp', fun H2 v r sp2 k2 ok hv => ?_⟩
      obtain ⟨t, rfl, ht⟩ := hv
      obtain ⟨xs, ex⟩ := row_head r
      have ht0 := ht
      rw [ex] at ht0
      refine ⟨_, rfl, t, _, 0, _, rfl, rfl, ht0.sq, at_zero _ _, ?_⟩
      refine test_in jumpW r.word (fun R h => h) (by decide) fun H3 s3 => ?_
      by_cases hj : r.word ∈ jumpW
      · obtain ⟨k, n, rfl⟩ := jump_of ok hj
        refine ifT (decide_eq_true hj) ?_
        refine ⟨_, rfl, t, _, 0, _, rfl, rfl, (ht0.mv (Tups.of s3)).sq, at_zero _ _, _, rfl, p, 256, rfl, by decide, by decide, sp2.same s3, fun H4 v4 l4 p4 o4 => ⟨two_line, fun t5 nt => ?_⟩⟩
        have sp5 := p4.same (new_same (o := .tup [.str (Row.word (.jump k n)), .int v4]) nt)
        have ht5 : TupAt K (upd H4 t5 (.tup [.str (Row.word (.jump k n)), .int v4])) t5 (rowV (.jump k v4)) := .inl upd_same
        have ok5 : (Row.jump k (v4 : Int)).ok := ⟨ok.1, by omega, by omega⟩
        obtain ⟨xs', ex'⟩ := row_head (Row.jump k (v4 : Int))
        rw [ex'] at ht5
        refine ⟨_, rfl, t5, _, 0, _, rfl, rfl, ht5.sq, at_zero _ _, ?_⟩
        refine test_out overW (Row.jump k (v4 : Int)).word (fun R h => h) (by decide) fun H6 s6 => ?_
        by_cases ho : (Row.jump k (v4 : Int)).word ∈ overW
        · refine ifF (by rw [decide_eq_true ho]; rfl) (ifF rfl ?_)
          exact ⟨_, _, rfl, sp5.same s6⟩
        · refine ifT (by rw [decide_eq_false ho]; rfl) ?_
          refine ⟨_, rfl, _, rfl, p, .ref t5, (Row.jump k (v4 : Int)), rfl, sp5.same s6, ⟨t5, rfl, by rw [ex']; exact ht5.mv (Tups.of s6)⟩, ok5, goes_of ok5 ho, fun H7 sp7 k7 => ⟨true, rfl, ifF rfl ?_⟩⟩
          exact ⟨_, _, rfl, sp7⟩
      · refine ifF (decide_eq_false hj) ?_
        have sp5 := sp2.same s3
        have ht5 := ht.mv (Tups.of s3)
        obtain ⟨xs', ex'⟩ := row_head r
        rw [ex'] at ht5
        refine ⟨_, rfl, t, _, 0, _, rfl, rfl, ht5.sq, at_zero _ _, ?_⟩
        refine test_out overW r.word (fun R h => h) (by decide) fun H6 s6 => ?_
        by_cases ho : r.word ∈ overW
        · refine ifF (by rw [decide_eq_true ho]; rfl) (ifF rfl ?_)
          exact ⟨_, _, rfl, sp5.same s6⟩
        · refine ifT (by rw [decide_eq_false ho]; rfl) ?_
          refine ⟨_, rfl, _, rfl, p, .ref t, r, rfl, sp5.same s6, ⟨t, rfl, by rw [ex']; exact ht5.mv (Tups.of s6)⟩, ok, goes_of ok ho, fun H7 sp7 k7 => ⟨true, rfl, ifF rfl ?_⟩⟩
          exact ⟨_, _, rfl, sp7⟩
    · rintro σ H' ⟨u2, u3, rfl, _⟩
      exact q _
end
end Rwl

/-! W22: the defs joined. -/
namespace Rwl
open PySem PySem.Spec PyProof.Rows L2

structure Ats (K : PySem.W.Frag) (mg : Str → Option Value) : Prop where
  a_short_row : At K mg "short_row" (top 9) ["first"]
  a_long_row : At K mg "long_row" (top 10) ["first", "n"]
  a_row_at : At K mg "row_at" (top 11) ["code", "address"]
  a_number_worth : At K mg "number_worth" (top 16) ["rest", "names", "cells"]
  a_name_worth : At K mg "name_worth" (top 17) ["rest", "names", "cells"]
  a_cell_worth : At K mg "cell_worth" (top 18) ["rest", "names", "cells"]
  a_not_worth : At K mg "not_worth" (top 19) ["rest", "names", "cells"]
  a_summed : At K mg "summed" (top 20) ["one", "other"]
  a_taken_off : At K mg "taken_off" (top 21) ["one", "other"]
  a_both_bits : At K mg "both_bits" (top 22) ["one", "other"]
  a_either_bits : At K mg "either_bits" (top 23) ["one", "other"]
  a_unlike_bits : At K mg "unlike_bits" (top 24) ["one", "other"]
  a_is_lesser : At K mg "is_lesser" (top 25) ["one", "other"]
  a_are_same : At K mg "are_same" (top 26) ["one", "other"]
  a_worth_of : At K mg "worth_of" (top 29) ["e", "names", "cells"]
  a_by_name : At K mg "by_name" (top 30) ["x"]
  a_by_number : At K mg "by_number" (top 31) ["n"]
  a_zero_by : At K mg "zero_by" (top 32) ["r"]
  a_lift_set : At K mg "lift_set" (top 33) ["row"]
  a_lift_copy : At K mg "lift_copy" (top 34) ["row"]
  a_lift_add : At K mg "lift_add" (top 35) ["row"]
  a_lift_sub : At K mg "lift_sub" (top 36) ["row"]
  a_lift_bits : At K mg "lift_bits" (top 37) ["row"]
  a_lift_test : At K mg "lift_test" (top 38) ["row"]
  a_lift_load : At K mg "lift_load" (top 39) ["row"]
  a_lift_store : At K mg "lift_store" (top 40) ["row"]
  a_lift_named : At K mg "lift_named" (top 41) ["row"]
  a_lift_told : At K mg "lift_told" (top 42) ["row"]
  a_lift_nothing : At K mg "lift_nothing" (top 43) ["row"]
  a_exit_of : At K mg "exit_of" (top 46) ["row", "behind"]
  a_lifted : At K mg "lifted" (top 47) ["code", "address"]
  a_law_spring : At K mg "_law_spring" (top 49) ["_law_script"]
  a_law_draw : At K mg "_law_draw" (top 50) ["_law_spring_here", "_law_many"]
  a_law_bytes : At K mg "_law_bytes" (top 51) ["_law_row"]
  a_law_drawn_row : At K mg "_law_drawn_row" (top 53) ["_law_spring_here"]
  a_law_fresh : At K mg "_law_fresh" (top 56) ["_law_inputs_here"]
  a_law_marks : At K mg "_law_marks" (top 57) ["_law_m", "_law_zero", "_law_less"]
  a_law_reckoned : At K mg "_law_reckoned" (top 58) ["_law_m", "_law_word", "_law_r", "_law_x", "_law_y"]
  a_law_moved : At K mg "_law_moved" (top 59) ["_law_m", "_law_word", "_law_r", "_law_x", "_law_n"]
  a_law_passed : At K mg "_law_passed" (top 60) ["_law_m", "_law_word", "_law_r"]
  a_law_gone : At K mg "_law_gone" (top 61) ["_law_m", "_law_row", "_law_behind"]
  a_law_done : At K mg "_law_done" (top 62) ["_law_m", "_law_row", "_law_behind"]
  a_law_inputs : At K mg "_law_inputs" (top 64) ["_law_spring_here"]
  a_law_state : At K mg "_law_state" (top 65) ["_law_spring_here"]
  a_law_copied : At K mg "_law_copied" (top 66) ["_law_m"]
  a_law_stated : At K mg "_law_stated" (top 67) ["_law_m", "_law_statement"]
  a_law_row_right : At K mg "_law_row_right" (top 68) ["_law_spring_here", "_law_row"]
structure Nones (mg : Str → Option Value) : Prop where
  n_len : mg "len" = none
  n_abs : mg "abs" = none
  n_int : mg "int" = none
  n_min : mg "min" = none
  n_range : mg "range" = none
  n_list : mg "list" = none
  n_dict : mg "dict" = none
  n_tuple : mg "tuple" = none
  n_bool : mg "bool" = none
  n_str : mg "str" = none
  n_isinstance : mg "isinstance" = none
/-- at k in the dict at d the def that x names -/
def Ent (w : World) (K : PySem.W.Frag) (mg : Str → Option Value) (d : Addr) (k : Key) (x : Str) : Prop := ∃ f, mg x = some (.ref f) ∧ KMap K w d k (some (.ref f))
def opDef : Op → Str
  | .add => "summed"
  | .sub => "taken_off"
  | .and => "both_bits"
  | .or => "either_bits"
  | .xor => "unlike_bits"
  | .lt => "is_lesser"
  | .eq => "are_same"
def numdF (k : Nat) : Str := (["lift_set", "lift_test", "lift_load", "lift_store"] : List Str).getD k ""
def pairF (k : Nat) : Str := (["lift_copy", "lift_add", "lift_sub", "lift_bits", "lift_bits", "lift_bits", "lift_test", "lift_load", "lift_store"] : List Str).getD k ""
def singleF (k : Nat) : Str := (["lift_named", "lift_told", "lift_told", "lift_named"] : List Str).getD k ""
structure Raw (w : World) (K : PySem.W.Frag) (mg : Str → Option Value) : Prop where
  round : ∃ t, mg "ROUND" = some (.int 256 t)
  cells : ∃ t, mg "CELLS" = some (.int 64 t)
  nothing : ∃ a, mg "NOTHING" = some (.ref a) ∧ KTup K a [.str "number", .int 0]
  signs : ∃ d, mg "SIGNS" = some (.ref d) ∧ (∀ o : Op, Ent w K mg d (Sum.inr o.sign) (opDef o)) ∧ KMap K w d (Sum.inr "number") none ∧ KMap K w d (Sum.inr "name") none ∧ KMap K w d (Sum.inr "cell") none ∧ KMap K w d (Sum.inr "not") none
  plain : ∃ d, mg "PLAIN" = some (.ref d) ∧ Ent w K mg d (Sum.inr "number") "number_worth" ∧ Ent w K mg d (Sum.inr "name") "name_worth" ∧ Ent w K mg d (Sum.inr "cell") "cell_worth" ∧ Ent w K mg d (Sum.inr "not") "not_worth"
  lifts : ∃ d, mg "LIFTS" = some (.ref d) ∧ (∀ k, k < 4 → Ent w K mg d (Sum.inr (numdW.getD k "")) (numdF k)) ∧ (∀ k, k < 9 → Ent w K mg d (Sum.inr (pairW.getD k "")) (pairF k)) ∧ (∀ k, k < 4 → Ent w K mg d (Sum.inr (singleW.getD k "")) (singleF k)) ∧
    (∀ k, k < 5 → KMap K w d (Sum.inr (jumpW.getD k "")) none) ∧ KMap K w d (Sum.inr (aloneW.getD 2 "")) none
section
variable {P : Program} {w : World} {K : PySem.W.Frag} {mg : Str → Option Value} {base : Heap}
theorem At.val {k : Nat} {x : Str} {st : Stmt} {ps : List Str} {sp : Sp} {f : Addr} (a : At K mg x st ps) (e : mg x = some (.ref f)) (h : ∀ f fd, Fun K x x st f fd → FnOk P w K mg base CX0 k f fd ps sp) : Val P w K mg base k f ps sp := by
  obtain ⟨f', fd, F, g, b⟩ := a
  rw [e] at g
  cases g
  exact ⟨fd, h _ _ F, F.kp, b⟩
theorem tables_of (A : Ats K mg) (N : Nones mg) (R : Raw w K mg) : Tables P w K mg base := by
  obtain ⟨dS, gS, sg, s1, s2, s3, s4⟩ := R.signs
  obtain ⟨dP, gP, ⟨f1, e1, k1⟩, ⟨f2, e2, k2⟩, ⟨f3, e3, k3⟩, ⟨f4, e4, k4⟩⟩ := R.plain
  refine ⟨⟨dS, gS, fun o => ?_, s1, s2, s3, s4⟩, ⟨dP, gP, ⟨f1, k1, A.a_number_worth.val e1 fun f fd F => ok_numW F⟩, ⟨f2, k2, A.a_name_worth.val e2 fun f fd F => ok_nameW F⟩, ⟨f3, k3, fun n C => A.a_cell_worth.val e3 fun f fd F => ok_cellW F C R.cells⟩,
    ⟨f4, k4, fun n C => A.a_not_worth.val e4 fun f fd F => ok_notW F C N.n_int⟩⟩⟩
  obtain ⟨fo, eo, ko⟩ := sg o
  refine ⟨fo, ko, ?_⟩
  cases o with
  | add => exact A.a_summed.val eo fun f fd F => ok_summed F R.round
  | sub => exact A.a_taken_off.val eo fun f fd F => ok_taken F R.round
  | and => exact A.a_both_bits.val eo fun f fd F => ok_both F
  | or => exact A.a_either_bits.val eo fun f fd F => ok_either F
  | xor => exact A.a_unlike_bits.val eo fun f fd F => ok_unlike F
  | lt => exact A.a_is_lesser.val eo fun f fd F => ok_lesser F N.n_int
  | eq => exact A.a_are_same.val eo fun f fd F => ok_same F N.n_int
theorem lifts_of (A : Ats K mg) (N : Nones mg) (R : Raw w K mg) : LiftTab P w K mg base := by
  have c_name : Cal P w K mg base 1 "by_name" ["x"] (spName K) := A.a_by_name.cal fun f fd F => ok_name F
  have c_number : Cal P w K mg base 1 "by_number" ["n"] (spNum K) := A.a_by_number.cal fun f fd F => ok_number F
  have c_zero : Cal P w K mg base 2 "zero_by" ["r"] (spZero K) := A.a_zero_by.cal fun f fd F => ok_zero F c_name R.nothing
  obtain ⟨d, gd, hn, hp, hs, hj, hr⟩ := R.lifts
  obtain ⟨f0, fd0, F0, g0, b0⟩ := id A.a_lift_nothing
  have v0 : Val P w K mg base 3 f0 ["row"] (spLift K fun r => (∃ k, r = .alone k) ∨ ∃ k n, r = .jump k n) := A.a_lift_nothing.val g0 fun f fd F => ok_lift_nothing F
  refine ⟨⟨d, f0, gd, g0, fun r ok go => ?_⟩⟩
  cases r with
  | alone k =>
    have e : k = 2 := go
    subst e
    exact ⟨f0, _, .inl ⟨_, rfl⟩, v0, .inr ⟨hr, rfl⟩⟩
  | jump k n => exact ⟨f0, _, .inr ⟨_, _, rfl⟩, v0, .inr ⟨hj k go, rfl⟩⟩
  | single k r =>
    obtain ⟨hk, _⟩ := ok
    obtain ⟨fo, eo, ko⟩ := hs k hk
    match k, hk with
    | 0, _ => exact ⟨fo, _, ⟨0, r, .inl rfl, rfl⟩, A.a_lift_named.val eo fun f fd F => ok_lift_named F, .inl ko⟩
    | 1, _ => exact ⟨fo, _, ⟨1, r, .inl rfl, rfl⟩, A.a_lift_told.val eo fun f fd F => ok_lift_told F c_name, .inl ko⟩
    | 2, _ => exact ⟨fo, _, ⟨2, r, .inr rfl, rfl⟩, A.a_lift_told.val eo fun f fd F => ok_lift_told F c_name, .inl ko⟩
    | 3, _ => exact ⟨fo, _, ⟨3, r, .inr rfl, rfl⟩, A.a_lift_named.val eo fun f fd F => ok_lift_named F, .inl ko⟩
    | k + 4, z => exact absurd z (by omega)
  | numd k r n =>
    obtain ⟨hk, _, _⟩ := ok
    obtain ⟨fo, eo, ko⟩ := hn k hk
    match k, hk with
    | 0, _ => exact ⟨fo, _, ⟨r, n, rfl⟩, A.a_lift_set.val eo fun f fd F => ok_lift_set F c_number, .inl ko⟩
    | 1, _ => exact ⟨fo, _, .inr ⟨r, n, rfl⟩, A.a_lift_test.val eo fun f fd F => ok_lift_test F c_name c_number, .inl ko⟩
    | 2, _ => exact ⟨fo, _, .inr ⟨r, n, rfl⟩, A.a_lift_load.val eo fun f fd F => ok_lift_load F c_name c_number R.cells, .inl ko⟩
    | 3, _ => exact ⟨fo, _, .inr ⟨r, n, rfl⟩, A.a_lift_store.val eo fun f fd F => ok_lift_store F c_name c_number R.cells, .inl ko⟩
    | k + 4, z => exact absurd z (by omega)
  | pair k r s =>
    obtain ⟨hk, _, _⟩ := ok
    obtain ⟨fo, eo, ko⟩ := hp k hk
    match k, hk with
    | 0, _ => exact ⟨fo, _, ⟨r, s, rfl⟩, A.a_lift_copy.val eo fun f fd F => ok_lift_copy F c_name, .inl ko⟩
    | 1, _ => exact ⟨fo, _, ⟨r, s, rfl⟩, A.a_lift_add.val eo fun f fd F => ok_lift_add F c_name c_number c_zero R.round, .inl ko⟩
    | 2, _ => exact ⟨fo, _, ⟨r, s, rfl⟩, A.a_lift_sub.val eo fun f fd F => ok_lift_sub F c_name c_zero, .inl ko⟩
    | 3, _ => exact ⟨fo, _, ⟨3, r, s, .inl rfl, rfl⟩, A.a_lift_bits.val eo fun f fd F => ok_lift_bits F c_name c_zero R.nothing, .inl ko⟩
    | 4, _ => exact ⟨fo, _, ⟨4, r, s, .inr (.inl rfl), rfl⟩, A.a_lift_bits.val eo fun f fd F => ok_lift_bits F c_name c_zero R.nothing, .inl ko⟩
    | 5, _ => exact ⟨fo, _, ⟨5, r, s, .inr (.inr rfl), rfl⟩, A.a_lift_bits.val eo fun f fd F => ok_lift_bits F c_name c_zero R.nothing, .inl ko⟩
    | 6, _ => exact ⟨fo, _, .inl ⟨r, s, rfl⟩, A.a_lift_test.val eo fun f fd F => ok_lift_test F c_name c_number, .inl ko⟩
    | 7, _ => exact ⟨fo, _, .inl ⟨r, s, rfl⟩, A.a_lift_load.val eo fun f fd F => ok_lift_load F c_name c_number R.cells, .inl ko⟩
    | 8, _ => exact ⟨fo, _, .inl ⟨r, s, rfl⟩, A.a_lift_store.val eo fun f fd F => ok_lift_store F c_name c_number R.cells, .inl ko⟩
    | k + 9, z => exact absurd z (by omega)
theorem join {f : Addr} {fd : FuncData} (F : Fun K "law" "law" (top 69) f fd) (A : Ats K mg) (N : Nones mg) (R : Raw w K mg) (RT : RowTabs w K mg) (ET : ExitTabs w K mg) : FnOk P w K mg base CX0 11 f fd ["_law_script"] (spLaw K) := by
  have TB : Tables P w K mg base := tables_of A N R
  have LT : LiftTab P w K mg base := lifts_of A N R
  have c_worth : Cal P w K mg base 8 "worth_of" wps (spWorth K 3) := by
    obtain ⟨f', fd', F', g', b'⟩ := A.a_worth_of
    exact ⟨f', fd', ok_worth F' g' b' TB 3, g', F'.kp, b'⟩
  have c_short : Cal P w K mg base 1 "short_row" ["first"] (spShort K) := A.a_short_row.cal fun f fd F => ok_short F RT
  have c_long : Cal P w K mg base 1 "long_row" ["first", "n"] (spLong K) := A.a_long_row.cal fun f fd F => ok_long F RT
  have c_rowat : Cal P w K mg base 2 "row_at" ["code", "address"] (spRowAt K) := A.a_row_at.cal fun f fd F => ok_row_at F c_short c_long N.n_len
  have c_exit : Cal P w K mg base 1 "exit_of" ["row", "behind"] (spExit K) := A.a_exit_of.cal fun f fd F => ok_exit F ET
  have c_lifted : Cal P w K mg base 4 "lifted" ["code", "address"] (spLifted K) := A.a_lifted.cal fun f fd F => ok_lifted F c_rowat c_exit LT
  have c_draw : Cal P w K mg base 1 "_law_draw" dps spDraw := A.a_law_draw.cal fun f fd F => ok_draw F
  have c_spring : Cal P w K mg base 1 "_law_spring" ["_law_script"] (spSpring K) := A.a_law_spring.cal fun f fd F => ok_spring F N.n_abs
  have c_bytes : Cal P w K mg base 1 "_law_bytes" ["_law_row"] (spBytes K) := A.a_law_bytes.cal fun f fd F => ok_bytes F
  have c_drawn : Cal P w K mg base 2 "_law_drawn_row" ["_law_spring_here"] (spDrawn K) := A.a_law_drawn_row.cal fun f fd F => ok_drawn F c_draw
  have c_fresh : Cal P w K mg base 1 "_law_fresh" ["_law_inputs_here"] spFresh := A.a_law_fresh.cal fun f fd F => ok_fresh F N.n_list
  have c_marks : Cal P w K mg base 1 "_law_marks" mps spMarks := A.a_law_marks.cal fun f fd F => ok_marks F N.n_int
  have c_reck : Cal P w K mg base 2 "_law_reckoned" rkps spReck := A.a_law_reckoned.cal fun f fd F => ok_reck F c_marks
  have c_moved : Cal P w K mg base 1 "_law_moved" mvps spMoved := A.a_law_moved.cal fun f fd F => ok_moved F
  have c_passed : Cal P w K mg base 1 "_law_passed" paps spPassed := A.a_law_passed.cal fun f fd F => ok_passed F N.n_len
  have c_gone : Cal P w K mg base 1 "_law_gone" gops (spGone K) := A.a_law_gone.cal fun f fd F => ok_gone F
  have c_done : Cal P w K mg base 3 "_law_done" gops (spDone K) := A.a_law_done.cal fun f fd F => ok_done F c_gone c_passed c_moved c_reck N.n_isinstance N.n_str
  have c_inputs : Cal P w K mg base 2 "_law_inputs" ["_law_spring_here"] spInputs := A.a_law_inputs.cal fun f fd F => ok_inputs F c_draw N.n_range
  have c_state : Cal P w K mg base 3 "_law_state" ["_law_spring_here"] spState := A.a_law_state.cal fun f fd F => ok_state F c_draw c_inputs c_fresh c_marks N.n_range
  have c_copied : Cal P w K mg base 1 "_law_copied" ["_law_m"] spCopied := A.a_law_copied.cal fun f fd F => ok_copied F N.n_dict N.n_list
  have c_stated : Cal P w K mg base 9 "_law_stated" sdps (spStated K) := A.a_law_stated.cal fun f fd F => ok_stated F c_worth N.n_len N.n_isinstance N.n_tuple
  have c_right : Cal P w K mg base 10 "_law_row_right" rips (spRight K) := A.a_law_row_right.cal fun f fd F => ok_right F c_bytes c_state c_copied c_done c_lifted c_stated c_worth N.n_len N.n_isinstance N.n_bool
  exact ok_law F c_spring c_drawn c_draw c_right N.n_len N.n_min N.n_range
end
end Rwl

/-! W23: what the top has written, read. -/
namespace Rwl
open PySem PySem.Spec PyProof.Rows L2

theorem at_mk {K : PySem.W.Frag} {h : Heap} {mg : Str → Option Value} {x : Str} {st : Stmt} {ps : List Str} {f : Addr} {od an : Option Addr} {sl : Array (Option Value)} {oc kV dc pm cd ct : Value} (X : K.In h) (G : h.Ns mainGlobals mg)
    (a : PySem.W.nsIn K mainGlobals x = some (some (.ref f))) (l : K.lookup f = some ⟨oc, od, .func (PySem.W.fnOf x x (defArgs st) (defBody st) (defScope st) .none kV dc pm an cd ct), sl⟩) (c : PySem.W.codeIn K cd x = true) (k : PySem.W.keepIn K (.ref f) = true)
    (b : ∀ (kV doc pm : Value) (an : Option Addr) (cdv ct : Value) (us : List Value), us.length = ps.length → bindArgs (PySem.W.fnOf x x (defArgs st) (defBody st) (defScope st) .none kV doc pm an cdv ct) ⟨us, []⟩ = pure (ps.zip us)) : At K mg x st ps :=
  ⟨f, _, fun_mk l c k, PySem.W.mg_of X G a, (fun_mk l c k).binds b⟩
def kvOf : Key → Nat → Value
  | .inl i, t => .int i t
  | .inr x, t => .str x t
def ents' (w : World) (tab : List (Key × Nat × Value)) : List DictEntry := tab.map fun p => ⟨keyH w p.1, kvOf p.1 p.2.1, p.2.2⟩
def keyB : Key → Key → Bool
  | .inl i, .inl j => j == i
  | .inr x, .inr y => y == x
  | _, _ => false
def findT (tab : List (Key × Nat × Value)) (k : Key) : Option Value := (tab.find? fun p => keyB k p.1).map fun p => p.2.2
theorem keyIs_kv (k j : Key) (t : Nat) : keyIs k (kvOf j t) = keyB k j := by
  cases k <;> cases j <;> rfl
def relB : Option V → Option Value → Bool
  | none, none => true
  | some (.ref a), some (.ref b) => a == b
  | some (.str x), some (.str y _) => x == y
  | _, _ => false
theorem relB_ok : ∀ {r : Option V} {o : Option Value}, relB r o = true → RelO r o := by
  intro r o h
  cases r with
  | none =>
    cases o with
    | none => exact trivial
    | some u => cases h
  | some v =>
    cases o with
    | none => cases v <;> cases h
    | some u =>
      cases v with
      | ref a =>
        cases u with
        | ref b =>
          have e : a = b := beq_iff_eq.mp h
          rw [e]
          exact rfl
        | _ => cases h
      | str x =>
        cases u with
        | str y t =>
          have e : x = y := beq_iff_eq.mp h
          rw [e]
          exact ⟨t, rfl⟩
        | _ => cases h
      | _ => cases h
theorem kv_key (j : Key) (t : Nat) : keyIs j (kvOf j t) = true := by
  rw [keyIs_kv]
  cases j with
  | inl i => exact beq_self_eq_true i
  | inr x => exact beq_self_eq_true x
theorem find_ents (w : World) (k : Key) : ∀ tab : List (Key × Nat × Value), ((ents' w tab).find? fun e => keyIs k e.key).map (fun e => e.val) = findT tab k
  | [] => rfl
  | p :: r => by
    have ih := find_ents w k r
    unfold ents' findT at ih ⊢
    rw [List.map_cons, List.find?_cons, List.find?_cons]
    have e1 : keyIs k (kvOf p.1 p.2.1) = keyB k p.1 := keyIs_kv k p.1 p.2.1
    cases e : keyB k p.1 with
    | true =>
      rw [e] at e1
      simp only [e1]
      rfl
    | false =>
      rw [e] at e1
      simp only [e1]
      exact ih
theorem kmap_tab {K : PySem.W.Frag} {w : World} {d : Addr} {n : Nat} {tab : List (Key × Nat × Value)} {k : Key} {r : Option V} (hl : K.lookup d = some ⟨.type "dict", none, .dict (ents' w tab).toArray n, #[]⟩) (low : (d == sysModules) = false)
    (hr : relB r (findT tab k) = true) : KMap K w d k r := by
  refine KMap.mk hl (fun e he => ?_) low ?_
  · have he' : e ∈ ents' w tab := by simpa using he
    obtain ⟨p, _, rfl⟩ := List.mem_map.mp he'
    exact ⟨p.1, kv_key _ _, rfl⟩
  · have e : findBy keyIs (ents' w tab).toArray k = findT tab k := by
      rw [← find_ents w k tab]
      unfold findBy
      rw [List.find?_toArray]
    rw [e]
    exact relB_ok hr
theorem tup_mk {K : PySem.W.Frag} {h : Heap} {mg : Str → Option Value} {x : Str} {a : Addr} {its : Array Value} {n : Nat} {dd : Option Addr} {sl : Array (Option Value)} {xs : List V} (X : K.In h) (G : h.Ns mainGlobals mg) (e : PySem.W.nsIn K mainGlobals x = some (some (.ref a)))
    (hl : K.lookup a = some ⟨.type "tuple", dd, .seq its n, sl⟩) (hz : its.size ≤ sizeLine) (hv : Vals xs its.toList) : ∃ a, mg x = some (.ref a) ∧ KTup K a xs := ⟨a, PySem.W.mg_of X G e, KTup.mk hl hz hv⟩
def tab16 : List (Key × Nat × Value) := [(Sum.inl 2, 195, .str "copy" 196), (Sum.inl 3, 197, .str "add" 198), (Sum.inl 4, 199, .str "sub" 200), (Sum.inl 5, 201, .str "and" 202), (Sum.inl 6, 203, .str "or" 204), (Sum.inl 7, 205, .str "xor" 206), (Sum.inl 8, 207, .str "test" 208), (Sum.inl 10, 209, .str "load" 210), (Sum.inl 11, 211, .str "store" 212)]
def tab17 : List (Key × Nat × Value) := [(Sum.inl 1, 223, .str "set" 224), (Sum.inl 9, 225, .str "testn" 226), (Sum.inl 12, 227, .str "loadn" 228), (Sum.inl 13, 229, .str "storen" 230)]
def tab119 : List (Key × Nat × Value) := [(Sum.inr "number", 383, .ref 48), (Sum.inr "name", 384, .ref 55), (Sum.inr "cell", 385, .ref 62), (Sum.inr "not", 386, .ref 69)]
def tab120 : List (Key × Nat × Value) := [(Sum.inr "+", 392, .ref 76), (Sum.inr "-", 393, .ref 83), (Sum.inr "&", 394, .ref 90), (Sum.inr "|", 395, .ref 97), (Sum.inr "^", 396, .ref 104), (Sum.inr "<", 397, .ref 111), (Sum.inr "=", 398, .ref 118)]
def tab226 : List (Key × Nat × Value) := [(Sum.inr "set", 542, .ref 155), (Sum.inr "copy", 544, .ref 162), (Sum.inr "add", 546, .ref 169), (Sum.inr "sub", 548, .ref 176), (Sum.inr "and", 550, .ref 183), (Sum.inr "or", 552, .ref 183), (Sum.inr "xor", 554, .ref 183), (Sum.inr "test", 556, .ref 190), (Sum.inr "testn", 558, .ref 190), (Sum.inr "load", 560, .ref 197), (Sum.inr "loadn", 562, .ref 197), (Sum.inr "store", 564, .ref 204), (Sum.inr "storen", 566, .ref 204), (Sum.inr "in", 568, .ref 211), (Sum.inr "take", 570, .ref 211), (Sum.inr "out", 572, .ref 218), (Sum.inr "keep", 574, .ref 218)]
def tab227 : List (Key × Nat × Value) := [(Sum.inr "zero", 577, .ref 228), (Sum.inr "nonzero", 580, .ref 230), (Sum.inr "less", 584, .ref 231), (Sum.inr "notless", 587, .ref 233)]
theorem lk_of {K : PySem.W.Frag} {d : Addr} {es es' : Array DictEntry} {n : Nat} (h : K.lookup d = some ⟨.type "dict", none, .dict es n, #[]⟩) (e : es = es') : K.lookup d = some ⟨.type "dict", none, .dict es' n, #[]⟩ := by rw [← e]; exact h
theorem law_mk {K : PySem.W.Frag} {h : Heap} {mg : Str → Option Value} {fa f : Addr} {od an : Option Addr} {sl : Array (Option Value)} {oc kV dc pm cd ct : Value} (X : K.In h) (G : h.Ns mainGlobals mg) (hfa : mg "law" = some (.ref fa))
    (a : PySem.W.nsIn K mainGlobals "law" = some (some (.ref f))) (l : K.lookup f = some ⟨oc, od, .func (PySem.W.fnOf "law" "law" (defArgs (top 69)) (defBody (top 69)) (defScope (top 69)) .none kV dc pm an cd ct), sl⟩) (c : PySem.W.codeIn K cd "law" = true) (k : PySem.W.keepIn K (.ref f) = true) :
    ∃ fd, Fun K "law" "law" (top 69) fa fd ∧ ∀ (s : Shared) (u : Value), BindsTo s fd ⟨[u], []⟩ [("_law_script", u)] := by
  have e := hfa.symm.trans (PySem.W.mg_of X G a)
  cases e
  exact ⟨_, fun_mk l c k, fun s v => .of_eq rfl⟩
theorem int_ROUND {K : PySem.W.Frag} {h : Heap} {mg : Str → Option Value} {t : Nat} (X : K.In h) (G : h.Ns mainGlobals mg) (e : PySem.W.nsIn K mainGlobals "ROUND" = some (some (.int 256 t))) : ∃ t, mg "ROUND" = some (.int 256 t) := ⟨t, PySem.W.mg_of X G e⟩
theorem int_CELLS {K : PySem.W.Frag} {h : Heap} {mg : Str → Option Value} {t : Nat} (X : K.In h) (G : h.Ns mainGlobals mg) (e : PySem.W.nsIn K mainGlobals "CELLS" = some (some (.int 64 t))) : ∃ t, mg "CELLS" = some (.int 64 t) := ⟨t, PySem.W.mg_of X G e⟩
theorem int_JUMPS {K : PySem.W.Frag} {h : Heap} {mg : Str → Option Value} {t : Nat} (X : K.In h) (G : h.Ns mainGlobals mg) (e : PySem.W.nsIn K mainGlobals "JUMPS" = some (some (.int 14 t))) : ∃ t, mg "JUMPS" = some (.int 14 t) := ⟨t, PySem.W.mg_of X G e⟩
theorem int_SINGLES {K : PySem.W.Frag} {h : Heap} {mg : Str → Option Value} {t : Nat} (X : K.In h) (G : h.Ns mainGlobals mg) (e : PySem.W.nsIn K mainGlobals "SINGLES" = some (some (.int 15 t))) : ∃ t, mg "SINGLES" = some (.int 15 t) := ⟨t, PySem.W.mg_of X G e⟩
theorem str_BOXES {K : PySem.W.Frag} {h : Heap} {mg : Str → Option Value} {t : Nat} (X : K.In h) (G : h.Ns mainGlobals mg) (e : PySem.W.nsIn K mainGlobals "BOXES" = some (some (.str "abcd" t))) : ∃ t, mg "BOXES" = some (.str "abcd" t) := ⟨t, PySem.W.mg_of X G e⟩
/-- what the names of the top stand for -/
structure Nms (K : PySem.W.Frag) : Prop where
  m_WORDS_OF_PAIRS : PySem.W.nsIn K mainGlobals "WORDS_OF_PAIRS" = some (some (.ref 16))
  m_WORDS_OF_NUMBERED : PySem.W.nsIn K mainGlobals "WORDS_OF_NUMBERED" = some (some (.ref 17))
  m_PLAIN : PySem.W.nsIn K mainGlobals "PLAIN" = some (some (.ref 119))
  m_SIGNS : PySem.W.nsIn K mainGlobals "SIGNS" = some (some (.ref 120))
  m_LIFTS : PySem.W.nsIn K mainGlobals "LIFTS" = some (some (.ref 226))
  m_ASKED : PySem.W.nsIn K mainGlobals "ASKED" = some (some (.ref 227))
  m_ALONE : PySem.W.nsIn K mainGlobals "ALONE" = some (some (.ref 15))
  m_TARGETS : PySem.W.nsIn K mainGlobals "TARGETS" = some (some (.ref 18))
  m_SINGLE : PySem.W.nsIn K mainGlobals "SINGLE" = some (some (.ref 19))
  m_NOTHING : PySem.W.nsIn K mainGlobals "NOTHING" = some (some (.ref 41))
  m_number_worth : PySem.W.nsIn K mainGlobals "number_worth" = some (some (.ref 48))
  m_name_worth : PySem.W.nsIn K mainGlobals "name_worth" = some (some (.ref 55))
  m_cell_worth : PySem.W.nsIn K mainGlobals "cell_worth" = some (some (.ref 62))
  m_not_worth : PySem.W.nsIn K mainGlobals "not_worth" = some (some (.ref 69))
  m_summed : PySem.W.nsIn K mainGlobals "summed" = some (some (.ref 76))
  m_taken_off : PySem.W.nsIn K mainGlobals "taken_off" = some (some (.ref 83))
  m_both_bits : PySem.W.nsIn K mainGlobals "both_bits" = some (some (.ref 90))
  m_either_bits : PySem.W.nsIn K mainGlobals "either_bits" = some (some (.ref 97))
  m_unlike_bits : PySem.W.nsIn K mainGlobals "unlike_bits" = some (some (.ref 104))
  m_is_lesser : PySem.W.nsIn K mainGlobals "is_lesser" = some (some (.ref 111))
  m_are_same : PySem.W.nsIn K mainGlobals "are_same" = some (some (.ref 118))
  m_lift_set : PySem.W.nsIn K mainGlobals "lift_set" = some (some (.ref 155))
  m_lift_copy : PySem.W.nsIn K mainGlobals "lift_copy" = some (some (.ref 162))
  m_lift_add : PySem.W.nsIn K mainGlobals "lift_add" = some (some (.ref 169))
  m_lift_sub : PySem.W.nsIn K mainGlobals "lift_sub" = some (some (.ref 176))
  m_lift_bits : PySem.W.nsIn K mainGlobals "lift_bits" = some (some (.ref 183))
  m_lift_test : PySem.W.nsIn K mainGlobals "lift_test" = some (some (.ref 190))
  m_lift_load : PySem.W.nsIn K mainGlobals "lift_load" = some (some (.ref 197))
  m_lift_store : PySem.W.nsIn K mainGlobals "lift_store" = some (some (.ref 204))
  m_lift_named : PySem.W.nsIn K mainGlobals "lift_named" = some (some (.ref 211))
  m_lift_told : PySem.W.nsIn K mainGlobals "lift_told" = some (some (.ref 218))
structure Dcts (w : World) (K : PySem.W.Frag) : Prop where
  d16 : K.lookup 16 = some ⟨.type "dict", none, .dict (ents' w tab16).toArray 9, #[]⟩
  d17 : K.lookup 17 = some ⟨.type "dict", none, .dict (ents' w tab17).toArray 4, #[]⟩
  d119 : K.lookup 119 = some ⟨.type "dict", none, .dict (ents' w tab119).toArray 4, #[]⟩
  d120 : K.lookup 120 = some ⟨.type "dict", none, .dict (ents' w tab120).toArray 7, #[]⟩
  d226 : K.lookup 226 = some ⟨.type "dict", none, .dict (ents' w tab226).toArray 17, #[]⟩
  d227 : K.lookup 227 = some ⟨.type "dict", none, .dict (ents' w tab227).toArray 4, #[]⟩
structure Tpls (K : PySem.W.Frag) : Prop where
  t15 : KTup K 15 (strsV aloneW)
  t18 : KTup K 18 (strsV jumpW)
  t19 : KTup K 19 (strsV singleW)
  t41 : KTup K 41 [.str "number", .int 0]
  t228 : KTup K 228 [.str "name", .str "zero"]
  t229 : KTup K 229 [.str "name", .str "zero"]
  t230 : KTup K 230 [.str "not", .ref 229]
  t231 : KTup K 231 [.str "name", .str "less"]
  t232 : KTup K 232 [.str "name", .str "less"]
  t233 : KTup K 233 [.str "not", .ref 232]
def opAt : Op → Addr
  | .add => 76
  | .sub => 83
  | .and => 90
  | .or => 97
  | .xor => 104
  | .lt => 111
  | .eq => 118
def numdA (k : Nat) : Addr := ([155, 190, 197, 204] : List Addr).getD k 0
def pairA (k : Nat) : Addr := ([162, 169, 176, 183, 183, 183, 190, 197, 204] : List Addr).getD k 0
def singleA (k : Nat) : Addr := ([211, 218, 218, 211] : List Addr).getD k 0
def askA (k : Nat) : Addr := ([0, 228, 230, 231, 233] : List Addr).getD k 0
theorem hit_op : ∀ o : Op, relB (some (.ref (opAt o))) (findT tab120 (Sum.inr o.sign)) = true
  | .add => by decide +kernel
  | .sub => by decide +kernel
  | .and => by decide +kernel
  | .or => by decide +kernel
  | .xor => by decide +kernel
  | .lt => by decide +kernel
  | .eq => by decide +kernel
theorem hit_numd : ∀ k : Nat, k < 4 → relB (some (.ref (numdA k))) (findT tab226 (Sum.inr (numdW.getD k ""))) = true := by decide +kernel
theorem hit_pair : ∀ k : Nat, k < 9 → relB (some (.ref (pairA k))) (findT tab226 (Sum.inr (pairW.getD k ""))) = true := by decide +kernel
theorem hit_single : ∀ k : Nat, k < 4 → relB (some (.ref (singleA k))) (findT tab226 (Sum.inr (singleW.getD k ""))) = true := by decide +kernel
theorem hit_jump : ∀ k : Nat, k < 5 → relB none (findT tab226 (Sum.inr (jumpW.getD k ""))) = true := by decide +kernel
theorem hit_ask : ∀ k : Nat, k < 5 → 1 ≤ k → relB (some (.ref (askA k))) (findT tab227 (Sum.inr (jumpW.getD k ""))) = true := by decide +kernel
theorem hit_off : ∀ x, x ∈ offW → relB none (findT tab227 (Sum.inr x)) = true := by decide +kernel
theorem hit_p : ∀ k : Nat, k < 9 → relB (some (.str (pairW.getD k ""))) (findT tab16 (Sum.inl ((pairK k : Int) + 1))) = true := by decide +kernel
theorem hit_pn : ∀ k : Nat, k < 4 → relB none (findT tab16 (Sum.inl ((numdK k : Int) + 1))) = true := by decide +kernel
theorem hit_n : ∀ k : Nat, k < 4 → relB (some (.str (numdW.getD k ""))) (findT tab17 (Sum.inl ((numdK k : Int) + 1))) = true := by decide +kernel
section
variable {w : World} {K : PySem.W.Frag} {h : Heap} {mg : Str → Option Value}
theorem e_numd (m : Nms K) : ∀ k, k < 4 → PySem.W.nsIn K mainGlobals (numdF k) = some (some (.ref (numdA k)))
  | 0, _ => m.m_lift_set
  | 1, _ => m.m_lift_test
  | 2, _ => m.m_lift_load
  | 3, _ => m.m_lift_store
  | k + 4, z => absurd z (by omega)
theorem e_pair (m : Nms K) : ∀ k, k < 9 → PySem.W.nsIn K mainGlobals (pairF k) = some (some (.ref (pairA k)))
  | 0, _ => m.m_lift_copy
  | 1, _ => m.m_lift_add
  | 2, _ => m.m_lift_sub
  | 3, _ => m.m_lift_bits
  | 4, _ => m.m_lift_bits
  | 5, _ => m.m_lift_bits
  | 6, _ => m.m_lift_test
  | 7, _ => m.m_lift_load
  | 8, _ => m.m_lift_store
  | k + 9, z => absurd z (by omega)
theorem e_single (m : Nms K) : ∀ k, k < 4 → PySem.W.nsIn K mainGlobals (singleF k) = some (some (.ref (singleA k)))
  | 0, _ => m.m_lift_named
  | 1, _ => m.m_lift_told
  | 2, _ => m.m_lift_told
  | 3, _ => m.m_lift_named
  | k + 4, z => absurd z (by omega)
theorem e_op (m : Nms K) : ∀ o : Op, PySem.W.nsIn K mainGlobals (opDef o) = some (some (.ref (opAt o)))
  | .add => m.m_summed
  | .sub => m.m_taken_off
  | .and => m.m_both_bits
  | .or => m.m_either_bits
  | .xor => m.m_unlike_bits
  | .lt => m.m_is_lesser
  | .eq => m.m_are_same
theorem ask_at (t : Tpls K) (H : Hp) : ∀ k, 1 ≤ k → k < 5 → EAt K H (.ref (askA k)) (askE k)
  | 0, z, _ => absurd z (by omega)
  | 1, _, _ => ⟨228, rfl, .inr t.t228⟩
  | 2, _, _ => ⟨230, .ref 229, rfl, .inr t.t230, ⟨229, rfl, .inr t.t229⟩⟩
  | 3, _, _ => ⟨231, rfl, .inr t.t231⟩
  | 4, _, _ => ⟨233, .ref 232, rfl, .inr t.t233, ⟨232, rfl, .inr t.t232⟩⟩
  | k + 5, _, z => absurd z (by omega)
theorem all_mk {l : PySem.W.OpenLaw} {fa : Addr} (X : K.In h) (G : h.Ns mainGlobals mg) (L : ∃ fd, Fun K "law" "law" (top 69) fa fd ∧ ∀ (s : Shared) (u : Value), BindsTo s fd ⟨[u], []⟩ [("_law_script", u)]) (A : Ats K mg) (N : Nones mg) (m : Nms K) (d : Dcts w K) (t : Tpls K)
    (i1 : ∃ t, mg "ROUND" = some (.int 256 t)) (i2 : ∃ t, mg "CELLS" = some (.int 64 t)) (i3 : ∃ t, mg "JUMPS" = some (.int 14 t)) (i4 : ∃ t, mg "SINGLES" = some (.int 15 t)) (i5 : ∃ t, mg "BOXES" = some (.str "abcd" t)) :
    ∃ fd : FuncData, (∀ (s : Shared) (u : Value), BindsTo s fd ⟨[u], []⟩ [("_law_script", u)]) ∧ ∀ base : Heap, K.In base → base.Ns mainGlobals mg → FnOk l.prog w K mg base CX0 11 fa fd ["_law_script"] (spLaw K) := by
  obtain ⟨fd, F, b⟩ := L
  have g : ∀ {x : Str} {v : Value}, PySem.W.nsIn K mainGlobals x = some (some v) → mg x = some v := fun e => PySem.W.mg_of X G e
  have lo : ∀ {a : Addr}, decide ((a == sysModules) = false) = true → (a == sysModules) = false := fun h => of_decide_eq_true h
  refine ⟨fd, b, fun base _ _ => join F A N ⟨i1, i2, ⟨41, g m.m_NOTHING, t.t41⟩, ⟨120, g m.m_SIGNS, fun o => ⟨_, g (e_op m o), kmap_tab d.d120 (by decide) (hit_op o)⟩, kmap_tab d.d120 (by decide) (by decide +kernel), kmap_tab d.d120 (by decide) (by decide +kernel), kmap_tab d.d120 (by decide) (by decide +kernel), kmap_tab d.d120 (by decide) (by decide +kernel)⟩, ⟨119, g m.m_PLAIN, ⟨48, g m.m_number_worth, kmap_tab d.d119 (by decide) (by decide +kernel)⟩, ⟨55, g m.m_name_worth, kmap_tab d.d119 (by decide) (by decide +kernel)⟩, ⟨62, g m.m_cell_worth, kmap_tab d.d119 (by decide) (by decide +kernel)⟩, ⟨69, g m.m_not_worth, kmap_tab d.d119 (by decide) (by decide +kernel)⟩⟩,
    ⟨226, g m.m_LIFTS, fun k hk => ⟨_, g (e_numd m k hk), kmap_tab d.d226 (by decide) (hit_numd k hk)⟩, fun k hk => ⟨_, g (e_pair m k hk), kmap_tab d.d226 (by decide) (hit_pair k hk)⟩, fun k hk => ⟨_, g (e_single m k hk), kmap_tab d.d226 (by decide) (hit_single k hk)⟩, fun k hk => kmap_tab d.d226 (by decide) (hit_jump k hk), kmap_tab d.d226 (by decide) (by decide +kernel)⟩⟩
    ⟨N.n_len, i5, ⟨15, g m.m_ALONE, t.t15⟩, ⟨18, g m.m_TARGETS, t.t18⟩, ⟨19, g m.m_SINGLE, t.t19⟩, i3, i4, ⟨16, g m.m_WORDS_OF_PAIRS, fun k hk => kmap_tab d.d16 (by decide) (hit_p k hk), fun k hk => kmap_tab d.d16 (by decide) (hit_pn k hk), kmap_tab d.d16 (by decide) (by decide +kernel)⟩, ⟨17, g m.m_WORDS_OF_NUMBERED, fun k hk => kmap_tab d.d17 (by decide) (hit_n k hk)⟩⟩
    ⟨⟨227, g m.m_ASKED, fun k k1 hk => ⟨askA k, kmap_tab d.d227 (by decide) (hit_ask k hk k1), fun H => ask_at t H k k1 hk⟩, fun x hx => kmap_tab d.d227 (by decide) (hit_off x hx)⟩⟩⟩
end
theorem walk {l : PySem.W.OpenLaw} {q : Program} {loose : List Str} {XP : (Str → Option Value) → Heap → Prop} {YP : World → Heap → Prop} {d : DefRec} {K : Params → PySem.W.Frag} (hn : l.most = some 63) (hdf : d.params.defaults = [])
    (hY : ∀ (w : World) (h : Heap), YP w h → (K w.params).In h)
    (F : ∀ (w : World) (mg : Str → Option Value) (fa : Addr) (h : Heap), (K w.params).In h → h.Ns mainGlobals mg → mg d.name = some (.ref fa) →
      ∃ fd : FuncData, (∀ (s : Shared) (u : Value), BindsTo s fd ⟨[u], []⟩ [("_law_script", u)]) ∧ ∀ base : Heap, (K w.params).In base → base.Ns mainGlobals mg → FnOk l.prog w (K w.params) mg base CX0 11 fa fd ["_law_script"] (spLaw (K w.params))) :
    PySem.W.WalkO q loose XP YP l.row.toRowW d [] (fun f vs => PySem.call f vs) :=
  L2.walk_of (n := 63) (k := 11) (x := "_law_script") (CX := fun _ => CX0) (sp := fun w => spLaw (K w.params)) hn (by decide) hdf ⟨rfl, by decide, by decide⟩ hY F (fun _ _ a ns hl _ hS => ⟨a, ns, rfl, hS, hl, fun _ => rfl⟩) fun _ _ _ _ _ z => z
end Rwl

namespace Rwl
open PySem PySem.W PyProof.Rows in
set_option maxHeartbeats 0 in
open_top hd for PySem.Challenge.rw_rowlift_k29_whole_statements_do_as_rows
end Rwl
open PySem PySem.Spec PySem.W PyProof.Rows in
set_option maxHeartbeats 0 in
theorem PySem.Challenge.cw_rowlift_k29_whole_statements_do_as_rows_holds : PySem.Challenge.rw_rowlift_k29_whole_statements_do_as_rows.Holds :=
  Rwl.hd (by
  k_fill
  refine Rwl.walk (l := PySem.Challenge.rw_rowlift_k29_whole_statements_do_as_rows) rfl rfl (fun w h Y => PySem.W.kIn_of Y) ?F
  case F =>
    intro w mg fa h KX G hmg
    refine' Rwl.all_mk (l := PySem.Challenge.rw_rowlift_k29_whole_statements_do_as_rows) KX G ?L ?A ?N ?m ?d ?t ?i1 ?i2 ?i3 ?i4 ?i5
    case L =>
      refine' Rwl.law_mk KX G hmg ?a ?l ?c ?k
      (case a => k_is)
      (case l => k_is)
      (case c => k_is)
      (case k => k_is)
    case A =>
      refine' Rwl.Ats.mk ?f9 ?f10 ?f11 ?f16 ?f17 ?f18 ?f19 ?f20 ?f21 ?f22 ?f23 ?f24 ?f25 ?f26 ?f29 ?f30 ?f31 ?f32 ?f33 ?f34 ?f35 ?f36 ?f37 ?f38 ?f39 ?f40 ?f41 ?f42 ?f43 ?f46 ?f47 ?f49 ?f50 ?f51 ?f53 ?f56 ?f57 ?f58 ?f59 ?f60 ?f61 ?f62 ?f64 ?f65 ?f66 ?f67 ?f68
      case f9 =>
        refine' Rwl.at_mk KX G ?a ?l ?c ?k fun _ _ _ _ _ _ us hl => ?b
        (case a => k_is)
        (case l => k_is)
        (case c => k_is)
        (case k => k_is)
        (case b => match us, hl with | [_], _ => rfl)
      case f10 =>
        refine' Rwl.at_mk KX G ?a ?l ?c ?k fun _ _ _ _ _ _ us hl => ?b
        (case a => k_is)
        (case l => k_is)
        (case c => k_is)
        (case k => k_is)
        (case b => match us, hl with | [_, _], _ => rfl)
      case f11 =>
        refine' Rwl.at_mk KX G ?a ?l ?c ?k fun _ _ _ _ _ _ us hl => ?b
        (case a => k_is)
        (case l => k_is)
        (case c => k_is)
        (case k => k_is)
        (case b => match us, hl with | [_, _], _ => rfl)
      case f16 =>
        refine' Rwl.at_mk KX G ?a ?l ?c ?k fun _ _ _ _ _ _ us hl => ?b
        (case a => k_is)
        (case l => k_is)
        (case c => k_is)
        (case k => k_is)
        (case b => match us, hl with | [_, _, _], _ => rfl)
      case f17 =>
        refine' Rwl.at_mk KX G ?a ?l ?c ?k fun _ _ _ _ _ _ us hl => ?b
        (case a => k_is)
        (case l => k_is)
        (case c => k_is)
        (case k => k_is)
        (case b => match us, hl with | [_, _, _], _ => rfl)
      case f18 =>
        refine' Rwl.at_mk KX G ?a ?l ?c ?k fun _ _ _ _ _ _ us hl => ?b
        (case a => k_is)
        (case l => k_is)
        (case c => k_is)
        (case k => k_is)
        (case b => match us, hl with | [_, _, _], _ => rfl)
      case f19 =>
        refine' Rwl.at_mk KX G ?a ?l ?c ?k fun _ _ _ _ _ _ us hl => ?b
        (case a => k_is)
        (case l => k_is)
        (case c => k_is)
        (case k => k_is)
        (case b => match us, hl with | [_, _, _], _ => rfl)
      case f20 =>
        refine' Rwl.at_mk KX G ?a ?l ?c ?k fun _ _ _ _ _ _ us hl => ?b
        (case a => k_is)
        (case l => k_is)
        (case c => k_is)
        (case k => k_is)
        (case b => match us, hl with | [_, _], _ => rfl)
      case f21 =>
        refine' Rwl.at_mk KX G ?a ?l ?c ?k fun _ _ _ _ _ _ us hl => ?b
        (case a => k_is)
        (case l => k_is)
        (case c => k_is)
        (case k => k_is)
        (case b => match us, hl with | [_, _], _ => rfl)
      case f22 =>
        refine' Rwl.at_mk KX G ?a ?l ?c ?k fun _ _ _ _ _ _ us hl => ?b
        (case a => k_is)
        (case l => k_is)
        (case c => k_is)
        (case k => k_is)
        (case b => match us, hl with | [_, _], _ => rfl)
      case f23 =>
        refine' Rwl.at_mk KX G ?a ?l ?c ?k fun _ _ _ _ _ _ us hl => ?b
        (case a => k_is)
        (case l => k_is)
        (case c => k_is)
        (case k => k_is)
        (case b => match us, hl with | [_, _], _ => rfl)
      case f24 =>
        refine' Rwl.at_mk KX G ?a ?l ?c ?k fun _ _ _ _ _ _ us hl => ?b
        (case a => k_is)
        (case l => k_is)
        (case c => k_is)
        (case k => k_is)
        (case b => match us, hl with | [_, _], _ => rfl)
      case f25 =>
        refine' Rwl.at_mk KX G ?a ?l ?c ?k fun _ _ _ _ _ _ us hl => ?b
        (case a => k_is)
        (case l => k_is)
        (case c => k_is)
        (case k => k_is)
        (case b => match us, hl with | [_, _], _ => rfl)
      case f26 =>
        refine' Rwl.at_mk KX G ?a ?l ?c ?k fun _ _ _ _ _ _ us hl => ?b
        (case a => k_is)
        (case l => k_is)
        (case c => k_is)
        (case k => k_is)
        (case b => match us, hl with | [_, _], _ => rfl)
      case f29 =>
        refine' Rwl.at_mk KX G ?a ?l ?c ?k fun _ _ _ _ _ _ us hl => ?b
        (case a => k_is)
        (case l => k_is)
        (case c => k_is)
        (case k => k_is)
        (case b => match us, hl with | [_, _, _], _ => rfl)
      case f30 =>
        refine' Rwl.at_mk KX G ?a ?l ?c ?k fun _ _ _ _ _ _ us hl => ?b
        (case a => k_is)
        (case l => k_is)
        (case c => k_is)
        (case k => k_is)
        (case b => match us, hl with | [_], _ => rfl)
      case f31 =>
        refine' Rwl.at_mk KX G ?a ?l ?c ?k fun _ _ _ _ _ _ us hl => ?b
        (case a => k_is)
        (case l => k_is)
        (case c => k_is)
        (case k => k_is)
        (case b => match us, hl with | [_], _ => rfl)
      case f32 =>
        refine' Rwl.at_mk KX G ?a ?l ?c ?k fun _ _ _ _ _ _ us hl => ?b
        (case a => k_is)
        (case l => k_is)
        (case c => k_is)
        (case k => k_is)
        (case b => match us, hl with | [_], _ => rfl)
      case f33 =>
        refine' Rwl.at_mk KX G ?a ?l ?c ?k fun _ _ _ _ _ _ us hl => ?b
        (case a => k_is)
        (case l => k_is)
        (case c => k_is)
        (case k => k_is)
        (case b => match us, hl with | [_], _ => rfl)
      case f34 =>
        refine' Rwl.at_mk KX G ?a ?l ?c ?k fun _ _ _ _ _ _ us hl => ?b
        (case a => k_is)
        (case l => k_is)
        (case c => k_is)
        (case k => k_is)
        (case b => match us, hl with | [_], _ => rfl)
      case f35 =>
        refine' Rwl.at_mk KX G ?a ?l ?c ?k fun _ _ _ _ _ _ us hl => ?b
        (case a => k_is)
        (case l => k_is)
        (case c => k_is)
        (case k => k_is)
        (case b => match us, hl with | [_], _ => rfl)
      case f36 =>
        refine' Rwl.at_mk KX G ?a ?l ?c ?k fun _ _ _ _ _ _ us hl => ?b
        (case a => k_is)
        (case l => k_is)
        (case c => k_is)
        (case k => k_is)
        (case b => match us, hl with | [_], _ => rfl)
      case f37 =>
        refine' Rwl.at_mk KX G ?a ?l ?c ?k fun _ _ _ _ _ _ us hl => ?b
        (case a => k_is)
        (case l => k_is)
        (case c => k_is)
        (case k => k_is)
        (case b => match us, hl with | [_], _ => rfl)
      case f38 =>
        refine' Rwl.at_mk KX G ?a ?l ?c ?k fun _ _ _ _ _ _ us hl => ?b
        (case a => k_is)
        (case l => k_is)
        (case c => k_is)
        (case k => k_is)
        (case b => match us, hl with | [_], _ => rfl)
      case f39 =>
        refine' Rwl.at_mk KX G ?a ?l ?c ?k fun _ _ _ _ _ _ us hl => ?b
        (case a => k_is)
        (case l => k_is)
        (case c => k_is)
        (case k => k_is)
        (case b => match us, hl with | [_], _ => rfl)
      case f40 =>
        refine' Rwl.at_mk KX G ?a ?l ?c ?k fun _ _ _ _ _ _ us hl => ?b
        (case a => k_is)
        (case l => k_is)
        (case c => k_is)
        (case k => k_is)
        (case b => match us, hl with | [_], _ => rfl)
      case f41 =>
        refine' Rwl.at_mk KX G ?a ?l ?c ?k fun _ _ _ _ _ _ us hl => ?b
        (case a => k_is)
        (case l => k_is)
        (case c => k_is)
        (case k => k_is)
        (case b => match us, hl with | [_], _ => rfl)
      case f42 =>
        refine' Rwl.at_mk KX G ?a ?l ?c ?k fun _ _ _ _ _ _ us hl => ?b
        (case a => k_is)
        (case l => k_is)
        (case c => k_is)
        (case k => k_is)
        (case b => match us, hl with | [_], _ => rfl)
      case f43 =>
        refine' Rwl.at_mk KX G ?a ?l ?c ?k fun _ _ _ _ _ _ us hl => ?b
        (case a => k_is)
        (case l => k_is)
        (case c => k_is)
        (case k => k_is)
        (case b => match us, hl with | [_], _ => rfl)
      case f46 =>
        refine' Rwl.at_mk KX G ?a ?l ?c ?k fun _ _ _ _ _ _ us hl => ?b
        (case a => k_is)
        (case l => k_is)
        (case c => k_is)
        (case k => k_is)
        (case b => match us, hl with | [_, _], _ => rfl)
      case f47 =>
        refine' Rwl.at_mk KX G ?a ?l ?c ?k fun _ _ _ _ _ _ us hl => ?b
        (case a => k_is)
        (case l => k_is)
        (case c => k_is)
        (case k => k_is)
        (case b => match us, hl with | [_, _], _ => rfl)
      case f49 =>
        refine' Rwl.at_mk KX G ?a ?l ?c ?k fun _ _ _ _ _ _ us hl => ?b
        (case a => k_is)
        (case l => k_is)
        (case c => k_is)
        (case k => k_is)
        (case b => match us, hl with | [_], _ => rfl)
      case f50 =>
        refine' Rwl.at_mk KX G ?a ?l ?c ?k fun _ _ _ _ _ _ us hl => ?b
        (case a => k_is)
        (case l => k_is)
        (case c => k_is)
        (case k => k_is)
        (case b => match us, hl with | [_, _], _ => rfl)
      case f51 =>
        refine' Rwl.at_mk KX G ?a ?l ?c ?k fun _ _ _ _ _ _ us hl => ?b
        (case a => k_is)
        (case l => k_is)
        (case c => k_is)
        (case k => k_is)
        (case b => match us, hl with | [_], _ => rfl)
      case f53 =>
        refine' Rwl.at_mk KX G ?a ?l ?c ?k fun _ _ _ _ _ _ us hl => ?b
        (case a => k_is)
        (case l => k_is)
        (case c => k_is)
        (case k => k_is)
        (case b => match us, hl with | [_], _ => rfl)
      case f56 =>
        refine' Rwl.at_mk KX G ?a ?l ?c ?k fun _ _ _ _ _ _ us hl => ?b
        (case a => k_is)
        (case l => k_is)
        (case c => k_is)
        (case k => k_is)
        (case b => match us, hl with | [_], _ => rfl)
      case f57 =>
        refine' Rwl.at_mk KX G ?a ?l ?c ?k fun _ _ _ _ _ _ us hl => ?b
        (case a => k_is)
        (case l => k_is)
        (case c => k_is)
        (case k => k_is)
        (case b => match us, hl with | [_, _, _], _ => rfl)
      case f58 =>
        refine' Rwl.at_mk KX G ?a ?l ?c ?k fun _ _ _ _ _ _ us hl => ?b
        (case a => k_is)
        (case l => k_is)
        (case c => k_is)
        (case k => k_is)
        (case b => match us, hl with | [_, _, _, _, _], _ => rfl)
      case f59 =>
        refine' Rwl.at_mk KX G ?a ?l ?c ?k fun _ _ _ _ _ _ us hl => ?b
        (case a => k_is)
        (case l => k_is)
        (case c => k_is)
        (case k => k_is)
        (case b => match us, hl with | [_, _, _, _, _], _ => rfl)
      case f60 =>
        refine' Rwl.at_mk KX G ?a ?l ?c ?k fun _ _ _ _ _ _ us hl => ?b
        (case a => k_is)
        (case l => k_is)
        (case c => k_is)
        (case k => k_is)
        (case b => match us, hl with | [_, _, _], _ => rfl)
      case f61 =>
        refine' Rwl.at_mk KX G ?a ?l ?c ?k fun _ _ _ _ _ _ us hl => ?b
        (case a => k_is)
        (case l => k_is)
        (case c => k_is)
        (case k => k_is)
        (case b => match us, hl with | [_, _, _], _ => rfl)
      case f62 =>
        refine' Rwl.at_mk KX G ?a ?l ?c ?k fun _ _ _ _ _ _ us hl => ?b
        (case a => k_is)
        (case l => k_is)
        (case c => k_is)
        (case k => k_is)
        (case b => match us, hl with | [_, _, _], _ => rfl)
      case f64 =>
        refine' Rwl.at_mk KX G ?a ?l ?c ?k fun _ _ _ _ _ _ us hl => ?b
        (case a => k_is)
        (case l => k_is)
        (case c => k_is)
        (case k => k_is)
        (case b => match us, hl with | [_], _ => rfl)
      case f65 =>
        refine' Rwl.at_mk KX G ?a ?l ?c ?k fun _ _ _ _ _ _ us hl => ?b
        (case a => k_is)
        (case l => k_is)
        (case c => k_is)
        (case k => k_is)
        (case b => match us, hl with | [_], _ => rfl)
      case f66 =>
        refine' Rwl.at_mk KX G ?a ?l ?c ?k fun _ _ _ _ _ _ us hl => ?b
        (case a => k_is)
        (case l => k_is)
        (case c => k_is)
        (case k => k_is)
        (case b => match us, hl with | [_], _ => rfl)
      case f67 =>
        refine' Rwl.at_mk KX G ?a ?l ?c ?k fun _ _ _ _ _ _ us hl => ?b
        (case a => k_is)
        (case l => k_is)
        (case c => k_is)
        (case k => k_is)
        (case b => match us, hl with | [_, _], _ => rfl)
      case f68 =>
        refine' Rwl.at_mk KX G ?a ?l ?c ?k fun _ _ _ _ _ _ us hl => ?b
        (case a => k_is)
        (case l => k_is)
        (case c => k_is)
        (case k => k_is)
        (case b => match us, hl with | [_, _], _ => rfl)
    case N =>
      refine' Rwl.Nones.mk (PySem.W.mg_none_of KX G ?n0) (PySem.W.mg_none_of KX G ?n1) (PySem.W.mg_none_of KX G ?n2) (PySem.W.mg_none_of KX G ?n3) (PySem.W.mg_none_of KX G ?n4) (PySem.W.mg_none_of KX G ?n5) (PySem.W.mg_none_of KX G ?n6) (PySem.W.mg_none_of KX G ?n7) (PySem.W.mg_none_of KX G ?n8) (PySem.W.mg_none_of KX G ?n9) (PySem.W.mg_none_of KX G ?n10)
      (case n0 => k_is)
      (case n1 => k_is)
      (case n2 => k_is)
      (case n3 => k_is)
      (case n4 => k_is)
      (case n5 => k_is)
      (case n6 => k_is)
      (case n7 => k_is)
      (case n8 => k_is)
      (case n9 => k_is)
      (case n10 => k_is)
    case m =>
      refine' Rwl.Nms.mk ?m0 ?m1 ?m2 ?m3 ?m4 ?m5 ?m6 ?m7 ?m8 ?m9 ?m10 ?m11 ?m12 ?m13 ?m14 ?m15 ?m16 ?m17 ?m18 ?m19 ?m20 ?m21 ?m22 ?m23 ?m24 ?m25 ?m26 ?m27 ?m28 ?m29 ?m30
      (case m0 => k_is)
      (case m1 => k_is)
      (case m2 => k_is)
      (case m3 => k_is)
      (case m4 => k_is)
      (case m5 => k_is)
      (case m6 => k_is)
      (case m7 => k_is)
      (case m8 => k_is)
      (case m9 => k_is)
      (case m10 => k_is)
      (case m11 => k_is)
      (case m12 => k_is)
      (case m13 => k_is)
      (case m14 => k_is)
      (case m15 => k_is)
      (case m16 => k_is)
      (case m17 => k_is)
      (case m18 => k_is)
      (case m19 => k_is)
      (case m20 => k_is)
      (case m21 => k_is)
      (case m22 => k_is)
      (case m23 => k_is)
      (case m24 => k_is)
      (case m25 => k_is)
      (case m26 => k_is)
      (case m27 => k_is)
      (case m28 => k_is)
      (case m29 => k_is)
      (case m30 => k_is)
    case d =>
      refine' Rwl.Dcts.mk (Rwl.lk_of ?l16 ?e16) (Rwl.lk_of ?l17 ?e17) (Rwl.lk_of ?l119 ?e119) (Rwl.lk_of ?l120 ?e120) (Rwl.lk_of ?l226 ?e226) (Rwl.lk_of ?l227 ?e227)
      (case l16 => k_is)
      (case e16 => rfl)
      (case l17 => k_is)
      (case e17 => rfl)
      (case l119 => k_is)
      (case e119 => rfl)
      (case l120 => k_is)
      (case e120 => rfl)
      (case l226 => k_is)
      (case e226 => rfl)
      (case l227 => k_is)
      (case e227 => rfl)
    case t =>
      refine' Rwl.Tpls.mk (Rwl.KTup.mk ?l15 ?z15 ?v15) (Rwl.KTup.mk ?l18 ?z18 ?v18) (Rwl.KTup.mk ?l19 ?z19 ?v19) (Rwl.KTup.mk ?l41 ?z41 ?v41) (Rwl.KTup.mk ?l228 ?z228 ?v228) (Rwl.KTup.mk ?l229 ?z229 ?v229) (Rwl.KTup.mk ?l230 ?z230 ?v230) (Rwl.KTup.mk ?l231 ?z231 ?v231) (Rwl.KTup.mk ?l232 ?z232 ?v232) (Rwl.KTup.mk ?l233 ?z233 ?v233)
      (case l15 => k_is)
      (case z15 => decide)
      (case v15 => exact .cons ⟨_, rfl⟩ (.cons ⟨_, rfl⟩ (.cons ⟨_, rfl⟩ .nil)))
      (case l18 => k_is)
      (case z18 => decide)
      (case v18 => exact .cons ⟨_, rfl⟩ (.cons ⟨_, rfl⟩ (.cons ⟨_, rfl⟩ (.cons ⟨_, rfl⟩ (.cons ⟨_, rfl⟩ (.cons ⟨_, rfl⟩ .nil))))))
      (case l19 => k_is)
      (case z19 => decide)
      (case v19 => exact .cons ⟨_, rfl⟩ (.cons ⟨_, rfl⟩ (.cons ⟨_, rfl⟩ (.cons ⟨_, rfl⟩ .nil))))
      (case l41 => k_is)
      (case z41 => decide)
      (case v41 => exact .cons ⟨_, rfl⟩ (.cons ⟨_, rfl⟩ .nil))
      (case l228 => k_is)
      (case z228 => decide)
      (case v228 => exact .cons ⟨_, rfl⟩ (.cons ⟨_, rfl⟩ .nil))
      (case l229 => k_is)
      (case z229 => decide)
      (case v229 => exact .cons ⟨_, rfl⟩ (.cons ⟨_, rfl⟩ .nil))
      (case l230 => k_is)
      (case z230 => decide)
      (case v230 => exact .cons ⟨_, rfl⟩ (.cons rfl .nil))
      (case l231 => k_is)
      (case z231 => decide)
      (case v231 => exact .cons ⟨_, rfl⟩ (.cons ⟨_, rfl⟩ .nil))
      (case l232 => k_is)
      (case z232 => decide)
      (case v232 => exact .cons ⟨_, rfl⟩ (.cons ⟨_, rfl⟩ .nil))
      (case l233 => k_is)
      (case z233 => decide)
      (case v233 => exact .cons ⟨_, rfl⟩ (.cons rfl .nil))
    case i1 =>
      refine' Rwl.int_ROUND KX G ?a
      (case a => k_is)
    case i2 =>
      refine' Rwl.int_CELLS KX G ?a
      (case a => k_is)
    case i3 =>
      refine' Rwl.int_JUMPS KX G ?a
      (case a => k_is)
    case i4 =>
      refine' Rwl.int_SINGLES KX G ?a
      (case a => k_is)
    case i5 =>
      refine' Rwl.str_BOXES KX G ?a
      (case a => k_is)
  )
